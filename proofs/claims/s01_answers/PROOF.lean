import PyProof.Rows.All
import Wide.All
import OpenK.AllK
import Wide.FinOn
import Open.SpecLaws
import KE.OsGo
import KE.DataMinMax
import HandS.ForSpec
import HandS.Comp
import HandS.Iter
import HandS.Walk
import HandS.CallLocal
import HandS.NoneIn
import HandS.SortRule
import HandS.SortKw
import HandS.Conv
import PySem.Challenge.RW_lotsonclocks_s01_answers
set_option Elab.async false
set_option maxRecDepth 100000
set_option maxHeartbeats 4000000
set_option pp.maxSteps 300
/-! part LcP1 -/
set_option autoImplicit false
namespace Lc
open Kh432

/-! ### the mirror: what each def works out, on lists of lots -/
def mem (mask n : Nat) : List Nat := (List.range n).filter (isMember mask)
def lotsIn (m : Market) (mask : Nat) : List Lot := (members m mask).map (lotAt m)
def endL (l : Lot) : Nat := l.start + l.duration
def onSale (ls : List Lot) (t : Nat) : Nat := (ls.filter fun l => decide (l.start ≤ t) && decide (t < endL l)).length
def need (ls : List Lot) : Nat := (ls.map fun l => onSale ls l.start).foldl max 0
def costOf (ls : List Lot) : Nat := (ls.map (·.cost)).sum
def unitsOf (ls : List Lot) : Nat := (ls.map (·.units)).sum
def ofKind (ls : List Lot) (k : Nat) : List Lot := ls.filter fun l => l.kind == k
def byKind (ls : List Lot) : List Nat := (List.range 3).map fun k => unitsOf (ofKind ls k)
def lastEnd (ls : List Lot) : Nat := (ls.map endL).foldl max 0
def coversL (ls : List Lot) (dem : List Nat) : Bool := ((byKind ls).zip dem).all fun p => decide (p.2 ≤ p.1)
def shortL (ls : List Lot) (dem : List Nat) : List Nat := ((byKind ls).zip dem).map fun p => p.2 - p.1
def isPlan (m : Market) (buyers : Nat) (dem : List Nat) (mask : Nat) : Bool := coversL (lotsIn m mask) dem && decide (need (lotsIn m mask) ≤ buyers)
def plansL (m : Market) (buyers : Nat) (dem : List Nat) : List Nat := (allSets m).filter (isPlan m buyers dem)
/-- -1 where there is none -/
def enc : Option Nat → Int
  | none => -1
  | some b => (b : Int)

theorem members_mem (m : Market) (mask : Nat) : members m mask = mem mask m.lots.length := rfl
theorem mem_zero (mask : Nat) : mem mask 0 = [] := rfl
theorem mem_succ (mask n : Nat) : mem mask (n + 1) = mem mask n ++ (if isMember mask n = true then [n] else []) := by
  unfold mem
  rw [List.range_succ, List.filter_append]
  congr 1
  by_cases h : isMember mask n = true
  · rw [if_pos h, List.filter_cons_of_pos h]
    rfl
  · rw [if_neg h, List.filter_cons_of_neg h]
    rfl
theorem mem_lt {mask n i : Nat} (h : i ∈ mem mask n) : i < n := List.mem_range.mp (List.mem_filter.mp h).1
theorem mem_is {mask n i : Nat} (h : i ∈ mem mask n) : isMember mask i = true := (List.mem_filter.mp h).2
theorem mem_iff {mask n i : Nat} : i ∈ mem mask n ↔ i < n ∧ isMember mask i = true := by
  unfold mem
  rw [List.mem_filter, List.mem_range]
theorem mem_length (mask n : Nat) : (mem mask n).length ≤ n := by
  have h := List.length_filter_le (isMember mask) (List.range n)
  rwa [List.length_range] at h
theorem mem_nodup (mask n : Nat) : (mem mask n).Nodup := List.Pairwise.filter _ List.nodup_range
theorem div_step (mask n : Nat) : mask / 2 ^ n / 2 = mask / 2 ^ (n + 1) := by
  rw [Nat.div_div_eq_div_mul, Nat.pow_succ]
theorem lotAt_get {m : Market} {i : Nat} {l : Lot} (h : m.lots[i]? = some l) : lotAt m i = l := by
  unfold lotAt
  rw [List.getD_eq_getElem?_getD, h]
  rfl
theorem lotsIn_length (m : Market) (mask : Nat) : (lotsIn m mask).length ≤ m.lots.length := by
  unfold lotsIn
  rw [List.length_map]
  exact mem_length mask m.lots.length

/-! ### the mirror and the specification -/
theorem cost_is (m : Market) (mask : Nat) : costOf (lotsIn m mask) = totalCost m mask := by
  unfold costOf lotsIn totalCost
  rw [List.map_map]
  rfl
theorem units_is (m : Market) (mask : Nat) : unitsOf (lotsIn m mask) = totalUnits m mask := by
  unfold unitsOf lotsIn totalUnits
  rw [List.map_map]
  rfl
theorem kind_is (m : Market) (mask k : Nat) : unitsOf (ofKind (lotsIn m mask) k) = unitsOfKind m mask k := by
  unfold unitsOf ofKind lotsIn unitsOfKind
  rw [List.filter_map, List.map_map]
  rfl
theorem end_is (m : Market) (mask : Nat) : lastEnd (lotsIn m mask) = endTime m mask := by
  unfold lastEnd lotsIn endTime
  rw [List.map_map]
  rfl
theorem onSale_is (m : Market) (mask i : Nat) : onSale (lotsIn m mask) (lotAt m i).start = activeAtStart m mask i := by
  unfold onSale lotsIn activeAtStart
  rw [List.filter_map, List.length_map]
  rfl
theorem need_is (m : Market) (mask : Nat) : need (lotsIn m mask) = buyersNeeded m mask := by
  unfold need buyersNeeded
  have e : (lotsIn m mask).map (fun l => onSale (lotsIn m mask) l.start) = (members m mask).map (activeAtStart m mask) := by
    conv => lhs; arg 2; unfold lotsIn
    rw [List.map_map]
    refine List.map_congr_left fun i _ => ?_
    exact onSale_is m mask i
  rw [e]
theorem three {l : List Nat} (h : l.length = 3) : ∃ a b c, l = [a, b, c] := by
  match l, h with
  | [a, b, c], _ => exact ⟨a, b, c, rfl⟩
theorem covers_is {m : Market} (h : m.demand.length = 3) (mask : Nat) : coversL (lotsIn m mask) m.demand = covers m mask := by
  obtain ⟨a, b, c, e⟩ := three h
  unfold coversL covers
  rw [e]
  simp only [byKind, kind_is, kindCount]
  rfl
theorem short_is {m : Market} (h : m.demand.length = 3) (mask : Nat) : shortL (lotsIn m mask) m.demand = (List.range kindCount).map fun kind => elementAt m.demand kind - unitsOfKind m mask kind := by
  obtain ⟨a, b, c, e⟩ := three h
  unfold shortL
  rw [e]
  simp only [byKind, kind_is, kindCount]
  rfl
theorem plan_is {m : Market} (h : m.demand.length = 3) (buyers : Nat) : isPlan m buyers m.demand = fun mask => covers m mask && decide (buyersNeeded m mask ≤ buyers) := by
  funext mask
  unfold isPlan
  rw [covers_is h, need_is]
theorem cost_fun (m : Market) : (fun mask => costOf (lotsIn m mask)) = totalCost m := funext fun mask => cost_is m mask
theorem end_fun (m : Market) : (fun mask => lastEnd (lotsIn m mask)) = endTime m := funext fun mask => end_is m mask
theorem cheapest_is {m : Market} (h : m.demand.length = 3) (buyers : Nat) : minimizing (fun mask => costOf (lotsIn m mask)) (plansL m buyers m.demand) = cheapestPlan m buyers := by
  unfold plansL cheapestPlan
  rw [plan_is h, cost_fun]
/-- another demand: the lots are the same -/
theorem lotsIn_demand (m : Market) (d : List Nat) (mask : Nat) : lotsIn { m with demand := d } mask = lotsIn m mask := rfl
theorem plansL_demand (m : Market) (d : List Nat) (buyers : Nat) : plansL { m with demand := d } buyers d = plansL m buyers d := rfl
theorem cheapest_if {m : Market} {d : List Nat} (h : d.length = 3) (buyers : Nat) : minimizing (fun mask => costOf (lotsIn m mask)) (plansL m buyers d) = cheapestPlan { m with demand := d } buyers :=
  cheapest_is (m := { m with demand := d }) h buyers

/-! ### the search for the least -/
theorem min_more (f : Nat → Nat) (l : List Nat) (x : Nat) : minimizing f (l ++ [x]) = (match minimizing f l with
    | none => some x
    | some b => if f x < f b then some x else some b) := by
  unfold minimizing
  rw [List.foldl_append]
  simp only [List.foldl_cons, List.foldl_nil]
  cases List.foldl _ none l <;> rfl
theorem min_none (f : Nat → Nat) (l : List Nat) : minimizing f l = none → l = [] := by
  have key : ∀ (l : List Nat) (acc : Option Nat), acc ≠ none → l.foldl (fun best mask => match best with
      | none => some mask
      | some b => if f mask < f b then some mask else best) acc ≠ none := by
    intro l
    induction l with
    | nil => exact fun _ h => h
    | cons x l ih =>
      intro acc h
      rw [List.foldl_cons]
      refine ih _ ?_
      cases acc with
      | none => exact absurd rfl h
      | some b =>
        dsimp only
        split <;> simp
  intro h
  cases l with
  | nil => rfl
  | cons x l =>
    unfold minimizing at h
    rw [List.foldl_cons] at h
    exact absurd h (key l _ (by simp))
theorem min_some (f : Nat → Nat) (l : List Nat) (b : Nat) (h : minimizing f l = some b) : b ∈ l ∧ ∀ x ∈ l, f b ≤ f x := by
  have key : ∀ (l : List Nat) (acc : Option Nat) (b : Nat), l.foldl (fun best mask => match best with
      | none => some mask
      | some b => if f mask < f b then some mask else best) acc = some b → (acc = some b ∨ b ∈ l) ∧ (∀ x ∈ l, f b ≤ f x) ∧ ∀ a, acc = some a → f b ≤ f a := by
    intro l
    induction l with
    | nil =>
      intro acc b h
      refine ⟨.inl h, by simp, fun a e => ?_⟩
      have h : acc = some b := h
      rw [h] at e
      cases e
      exact Nat.le_refl _
    | cons x l ih =>
      intro acc b h
      rw [List.foldl_cons] at h
      obtain ⟨h1, h2, h3⟩ := ih _ b h
      cases acc with
      | none =>
        have e := h3 x rfl
        refine ⟨.inr ?_, ?_, by simp⟩
        · rcases h1 with h1 | h1
          · cases h1
            exact List.mem_cons_self
          · exact List.mem_cons_of_mem _ h1
        · intro y hy
          rcases List.mem_cons.mp hy with rfl | hy
          · exact e
          · exact h2 y hy
      | some a =>
        dsimp only at h1 h3
        by_cases c : f x < f a
        · rw [if_pos c] at h1 h3
          have e := h3 x rfl
          refine ⟨.inr ?_, ?_, ?_⟩
          · rcases h1 with h1 | h1
            · cases h1
              exact List.mem_cons_self
            · exact List.mem_cons_of_mem _ h1
          · intro y hy
            rcases List.mem_cons.mp hy with rfl | hy
            · exact e
            · exact h2 y hy
          · intro z hz
            cases hz
            omega
        · rw [if_neg c] at h1 h3
          have e := h3 a rfl
          refine ⟨?_, ?_, ?_⟩
          · rcases h1 with h1 | h1
            · exact .inl h1
            · exact .inr (List.mem_cons_of_mem _ h1)
          · intro y hy
            rcases List.mem_cons.mp hy with rfl | hy
            · omega
            · exact h2 y hy
          · intro z hz
            cases hz
            exact e
  unfold minimizing at h
  obtain ⟨h1, h2, _⟩ := key l none b h
  exact ⟨h1.resolve_left (by simp), h2⟩
/-- one buyer's plan is two buyers' -/
theorem saving_le (m : Market) (a b : Nat) (h1 : cheapestPlan m 1 = some a) (h2 : cheapestPlan m 2 = some b) : totalCost m b ≤ totalCost m a := by
  unfold cheapestPlan at h1 h2
  obtain ⟨e1, _⟩ := min_some _ _ _ h1
  obtain ⟨_, e2⟩ := min_some _ _ _ h2
  refine e2 a ?_
  rw [List.mem_filter] at e1 ⊢
  refine ⟨e1.1, ?_⟩
  have z := e1.2
  simp only [Bool.and_eq_true, decide_eq_true_eq] at z ⊢
  exact ⟨z.1, by omega⟩

/-! ### the most units -/
def better (a b : List Lot) : Bool := if unitsOf a ≠ unitsOf b then decide (unitsOf b < unitsOf a) else decide (costOf a < costOf b)
def mostStep (m : Market) (buyers budget best mask : Nat) : Nat :=
  if (decide (costOf (lotsIn m mask) ≤ budget) && (decide (need (lotsIn m mask) ≤ buyers) && better (lotsIn m mask) (lotsIn m best))) = true then mask else best
theorem most_is (m : Market) (buyers budget : Nat) : (allSets m).foldl (mostStep m buyers budget) 0 = Kh432.maxUnits m buyers budget := by
  unfold Kh432.maxUnits
  rw [List.foldl_filter]
  congr 1
  funext best mask
  unfold mostStep
  rw [cost_is, need_is]
  unfold better
  rw [units_is, units_is, cost_is, cost_is]
  by_cases h1 : totalCost m mask ≤ budget
  · by_cases h2 : buyersNeeded m mask ≤ buyers
    · simp only [h1, h2, decide_true, Bool.true_and, if_true]
      by_cases h3 : totalUnits m mask = totalUnits m best
      · simp only [h3, ne_eq, not_true_eq_false, if_false, decide_eq_true_eq, Nat.lt_irrefl, false_or, true_and]
      · have h4 : ¬ totalUnits m best = totalUnits m mask := fun e => h3 e.symm
        simp only [h3, h4, ne_eq, not_false_eq_true, if_true, decide_eq_true_eq, false_and, or_false]
    · simp [h1, h2]
  · simp [h1]

/-! ### compatible sets -/
theorem foldl_max_le (l : List Nat) (a n : Nat) : l.foldl max a ≤ n ↔ a ≤ n ∧ ∀ x ∈ l, x ≤ n := by
  induction l generalizing a with
  | nil => simp
  | cons x l ih =>
    rw [List.foldl_cons, ih]
    simp only [List.mem_cons, forall_eq_or_imp, Nat.max_le, and_assoc]
theorem filter_le_one {l : List Nat} (hn : l.Nodup) (p : Nat → Bool) : (l.filter p).length ≤ 1 ↔ ∀ a ∈ l, ∀ b ∈ l, p a = true → p b = true → a = b := by
  constructor
  · intro h a ha b hb pa pb
    have ma : a ∈ l.filter p := List.mem_filter.mpr ⟨ha, pa⟩
    have mb : b ∈ l.filter p := List.mem_filter.mpr ⟨hb, pb⟩
    match e : l.filter p, h with
    | [], _ => rw [e] at ma; cases ma
    | [x], _ =>
      rw [e] at ma mb
      rw [List.mem_singleton.mp ma, List.mem_singleton.mp mb]
  · intro h
    have hn' : (l.filter p).Nodup := List.Pairwise.filter _ hn
    match e : l.filter p with
    | [] => simp
    | [x] => simp
    | x :: y :: r =>
      exfalso
      rw [e] at hn'
      have mx : x ∈ l.filter p := by rw [e]; simp
      have my : y ∈ l.filter p := by rw [e]; simp
      obtain ⟨x1, x2⟩ := List.mem_filter.mp mx
      obtain ⟨y1, y2⟩ := List.mem_filter.mp my
      have z := h x x1 y y1 x2 y2
      subst z
      simp at hn'
def Good (m : Market) : Prop := m.lots.length ≤ 7 ∧ m.demand.length = 3 ∧ m.bought.length = 3 ∧ ∀ l ∈ m.lots, 1 ≤ l.duration
theorem dur_at {m : Market} (h : ∀ l ∈ m.lots, 1 ≤ l.duration) {i : Nat} (hi : i < m.lots.length) : 1 ≤ (lotAt m i).duration := by
  have e : m.lots[i]? = some m.lots[i] := List.getElem?_eq_getElem hi
  rw [lotAt_get e]
  exact h _ (List.getElem_mem hi)
theorem compat_is {m : Market} (h : ∀ l ∈ m.lots, 1 ≤ l.duration) (mask : Nat) : Kh432.isCompatible m mask = decide (buyersNeeded m mask ≤ 1) := by
  rw [Bool.eq_iff_iff, decide_eq_true_eq]
  unfold buyersNeeded
  rw [foldl_max_le]
  simp only [Nat.zero_le, true_and, List.mem_map, forall_exists_index, and_imp, forall_apply_eq_imp_iff₂]
  unfold Kh432.isCompatible
  simp only [List.all_eq_true, Bool.not_eq_true']
  have nd : (members m mask).Nodup := mem_nodup mask m.lots.length
  constructor
  · intro H i hi
    unfold activeAtStart
    rw [filter_le_one nd]
    intro a ha b hb pa pb
    simp only [Bool.and_eq_true, decide_eq_true_eq] at pa pb
    have z := H a ha b hb
    unfold Kh432.overlap at z
    simp only [Bool.and_eq_false_iff, bne_eq_false_iff_eq, decide_eq_false_iff_not] at z
    rcases z with z | z | z
    · exact z
    · omega
    · omega
  · intro H i hi j hj
    unfold Kh432.overlap
    simp only [Bool.and_eq_false_iff, bne_eq_false_iff_eq, decide_eq_false_iff_not]
    by_cases e : i = j
    · exact .inl e
    · refine .inr ?_
      have di := dur_at h (mem_lt hi)
      have dj := dur_at h (mem_lt hj)
      have si := (filter_le_one nd _).mp (H i hi)
      have sj := (filter_le_one nd _).mp (H j hj)
      simp only [Bool.and_eq_true, decide_eq_true_eq] at si sj
      by_cases c1 : (lotAt m i).start < (lotAt m j).start + (lotAt m j).duration
      · refine .inr fun c2 => ?_
        rcases Nat.le_total (lotAt m i).start (lotAt m j).start with c | c
        · exact e (sj i hi j hj ⟨c, c2⟩ ⟨Nat.le_refl _, by omega⟩)
        · exact e (si i hi j hj ⟨Nat.le_refl _, by omega⟩ ⟨c, c1⟩)
      · exact .inl c1
end Lc
/-! part LcP2 -/
set_option autoImplicit false
namespace Lc
open Kh432

/-! ### bits -/
theorem isMember_testBit (p j : Nat) : isMember p j = p.testBit j := by
  rw [Nat.testBit_eq_decide_div_mod_eq]
  unfold isMember
  rw [Bool.eq_iff_iff, decide_eq_true_eq, beq_iff_eq]
theorem isMember_add {p i : Nat} (h : isMember p i = false) (j : Nat) : isMember (p + 2 ^ i) j = (isMember p j || decide (j = i)) := by
  rw [isMember_testBit] at h
  rw [isMember_testBit, isMember_testBit]
  have e1 : p = 2 ^ (i + 1) * (p / 2 ^ (i + 1)) + p % 2 ^ (i + 1) := (Nat.div_add_mod _ _).symm
  have hr : p % 2 ^ (i + 1) < 2 ^ i := by
    rw [Nat.testBit_eq_decide_div_mod_eq, decide_eq_false_iff_not] at h
    have hlt : p % 2 ^ (i + 1) < 2 ^ (i + 1) := Nat.mod_lt _ (Nat.two_pow_pos _)
    have e2 : p % 2 ^ (i + 1) / 2 ^ i = p / 2 ^ i % 2 := by
      rw [Nat.pow_succ, Nat.mod_mul_right_div_self]
    have e3 : p % 2 ^ (i + 1) / 2 ^ i = 0 := by omega
    exact (Nat.div_eq_zero_iff_lt (Nat.two_pow_pos _)).mp e3
  have e4 : p + 2 ^ i = 2 ^ (i + 1) * (p / 2 ^ (i + 1)) + (p % 2 ^ (i + 1) + 2 ^ i) := by omega
  have hpw : 2 ^ (i + 1) = 2 ^ i * 2 := Nat.pow_succ 2 i
  have hb : p % 2 ^ (i + 1) + 2 ^ i < 2 ^ (i + 1) := by omega
  have hs : p % 2 ^ (i + 1) < 2 ^ (i + 1) := Nat.mod_lt _ (Nat.two_pow_pos _)
  have L : (p + 2 ^ i).testBit j = if j < i + 1 then (p % 2 ^ (i + 1) + 2 ^ i).testBit j else (p / 2 ^ (i + 1)).testBit (j - (i + 1)) := by
    rw [e4, Nat.testBit_two_pow_mul_add _ hb]
  have R : p.testBit j = if j < i + 1 then (p % 2 ^ (i + 1)).testBit j else (p / 2 ^ (i + 1)).testBit (j - (i + 1)) := by
    conv => lhs; rw [e1, Nat.testBit_two_pow_mul_add _ hs]
  rw [L, R, ← Nat.or_two_pow_eq_add_of_lt hr]
  by_cases c : j < i + 1
  · rw [if_pos c, if_pos c, Nat.testBit_or, Nat.testBit_two_pow]
    congr 1
    rw [decide_eq_decide]
    exact eq_comm
  · rw [if_neg c, if_neg c, decide_eq_false (show ¬ j = i by omega), Bool.or_false]
theorem isMember_pow (i j : Nat) : isMember (2 ^ i) j = decide (j = i) := by
  have h := isMember_add (p := 0) (i := i) (by rw [isMember_testBit]; simp) j
  rw [Nat.zero_add] at h
  rw [h, isMember_testBit]
  simp

/-! ### the lots of a set by their starts -/
def pr (m : Market) (i : Nat) : Int × Int := (((lotAt m i).start : Nat), (i : Nat))
/-- x is not behind y -/
def leP (x y : Int × Int) : Prop := ¬ (y.1 < x.1 ∨ (y.1 = x.1 ∧ y.2 < x.2))
theorem insert_perm (m : Market) (i : Nat) : ∀ l : List Nat, (insertByStart m i l).Perm (i :: l)
  | [] => List.Perm.refl _
  | j :: r => by
    unfold insertByStart
    split
    · exact List.Perm.refl _
    · exact ((insert_perm m i r).cons j).trans (List.Perm.swap i j r)
theorem insert_sorted (m : Market) (i : Nat) : ∀ l : List Nat, l.Pairwise (fun a b => leP (pr m a) (pr m b)) → (insertByStart m i l).Pairwise (fun a b => leP (pr m a) (pr m b))
  | [], _ => by
    unfold insertByStart
    exact List.pairwise_singleton _ _
  | j :: r, h => by
    have h' := List.pairwise_cons.mp h
    unfold insertByStart
    split
    · rename_i c
      refine List.pairwise_cons.mpr ⟨fun b hb => ?_, h⟩
      have hij : leP (pr m i) (pr m j) := by
        unfold leP pr
        simp only
        omega
      rcases List.mem_cons.mp hb with rfl | hb
      · exact hij
      · have hjb := h'.1 b hb
        unfold leP pr at hij hjb ⊢
        simp only at hij hjb ⊢
        omega
    · rename_i c
      refine List.pairwise_cons.mpr ⟨fun b hb => ?_, insert_sorted m i r h'.2⟩
      rcases List.mem_cons.mp ((insert_perm m i r).mem_iff.mp hb) with rfl | hb
      · unfold leP pr
        simp only
        omega
      · exact h'.1 b hb
theorem sorted_perm (m : Market) (l : List Nat) : (l.foldr (insertByStart m) []).Perm l := by
  induction l with
  | nil => exact List.Perm.refl _
  | cons i l ih => exact (insert_perm m i _).trans (ih.cons i)
theorem sorted_sorted (m : Market) (l : List Nat) : (l.foldr (insertByStart m) []).Pairwise (fun a b => leP (pr m a) (pr m b)) := by
  induction l with
  | nil => exact List.Pairwise.nil
  | cons i l ih => exact insert_sorted m i _ ih
/-- just one list of the pairs is sorted -/
theorem sorted_is {m : Market} {mask : Nat} {Z : List (Int × Int)} (hp : Z.Perm ((members m mask).map (pr m))) (hs : Z.Pairwise leP) : Z = (sortedByStart m mask).map (pr m) := by
  refine List.Perm.eq_of_pairwise (le := leP) (fun a b _ _ h1 h2 => ?_) hs ?_ ?_
  · unfold leP at h1 h2
    exact Prod.ext (by omega) (by omega)
  · rw [List.pairwise_map]
    exact sorted_sorted m (members m mask)
  · exact hp.trans ((sorted_perm m (members m mask)).map (pr m)).symm
theorem sorted_mem {m : Market} {mask i : Nat} (h : i ∈ sortedByStart m mask) : i < m.lots.length :=
  mem_lt ((sorted_perm m (members m mask)).mem_iff.mp h)
theorem sorted_nodup (m : Market) (mask : Nat) : (sortedByStart m mask).Nodup := (sorted_perm m (members m mask)).nodup_iff.mpr (mem_nodup mask m.lots.length)
theorem sorted_length (m : Market) (mask : Nat) : (sortedByStart m mask).length ≤ m.lots.length := by
  have h := (sorted_perm m (members m mask)).length_eq
  have h2 := mem_length mask m.lots.length
  rw [← members_mem] at h2
  unfold sortedByStart
  omega

/-! ### the assignment -/
def firstFree (ends : List Nat) (t : Nat) : Nat := ends.findIdx fun e => decide (e ≤ t)
/-- one lot more: the buyers' last ends, the buyers' lots -/
def asgStep (m : Market) (s : List Nat × List Nat) (i : Nat) : List Nat × List Nat :=
  let b := firstFree s.1 (lotAt m i).start
  let s' := if b = s.1.length then (s.1 ++ [0], s.2 ++ [0]) else s
  (s'.1.set b (endL (lotAt m i)), s'.2.set b (s'.2.getD b 0 + 2 ^ i))
def asgSpec (m : Market) (buyers : List Nat) (i : Nat) : List Nat := match (List.range buyers.length).find? fun k => isFreeAt m (elementAt buyers k) (lotAt m i).start with
  | some k => buyers.set k (elementAt buyers k + 2 ^ i)
  | none => buyers ++ [2 ^ i]
theorem free_iff (m : Market) (mask t : Nat) : isFreeAt m mask t = true ↔ ∀ j, j < m.lots.length → isMember mask j = true → endL (lotAt m j) ≤ t := by
  unfold isFreeAt endL
  rw [List.all_eq_true]
  constructor
  · intro h j h1 h2
    exact of_decide_eq_true (h j (mem_iff.mpr ⟨h1, h2⟩))
  · intro h j hj
    obtain ⟨h1, h2⟩ := mem_iff.mp hj
    exact decide_eq_true (h j h1 h2)
structure AsgInv (m : Market) (done : List Nat) (s : List Nat × List Nat) : Prop where
  len : s.1.length = s.2.length
  free : ∀ (k e p : Nat), s.1[k]? = some e → s.2[k]? = some p → ∀ t, isFreeAt m p t = true ↔ e ≤ t
  has : ∀ (k p : Nat), s.2[k]? = some p → ∀ j, isMember p j = true → j ∈ done
theorem asg_step {m : Market} {done : List Nat} {s : List Nat × List Nat} {i : Nat} (I : AsgInv m done s) (hi : i < m.lots.length) (hn : i ∉ done) :
    AsgInv m (done ++ [i]) (asgStep m s i) ∧ (asgStep m s i).2 = asgSpec m s.2 i := by
  obtain ⟨ends, parts⟩ := s
  obtain ⟨len, free, has⟩ := I
  simp only at len free has
  have q : ∀ k, k < ends.length → (isFreeAt m (elementAt parts k) (lotAt m i).start = decide (ends.getD k 0 ≤ (lotAt m i).start)) := by
    intro k hk
    have h1 : ends[k]? = some ends[k] := List.getElem?_eq_getElem hk
    have h2 : parts[k]? = some (parts[k]'(by omega)) := List.getElem?_eq_getElem (by omega)
    rw [Bool.eq_iff_iff, decide_eq_true_eq]
    unfold elementAt
    rw [List.getD_eq_getElem?_getD, List.getD_eq_getElem?_getD, h1, h2]
    exact free k _ _ h1 h2 _
  by_cases c : firstFree ends (lotAt m i).start = ends.length
  · -- a new buyer
    have e1 : asgStep m (ends, parts) i = (ends ++ [endL (lotAt m i)], parts ++ [2 ^ i]) := by
      unfold asgStep
      simp only [c, if_true]
      rw [List.set_append_right _ _ (Nat.le_refl _), len, List.set_append_right _ _ (Nat.le_refl _)]
      simp
    have e2 : asgSpec m parts i = parts ++ [2 ^ i] := by
      unfold asgSpec
      have n : (List.range parts.length).find? (fun k => isFreeAt m (elementAt parts k) (lotAt m i).start) = none := by
        rw [List.find?_eq_none]
        intro k hk
        have hk' : k < ends.length := by rw [len]; exact List.mem_range.mp hk
        rw [q k hk']
        have z := List.findIdx_eq_length.mp c _ (List.getElem_mem hk')
        rw [List.getD_eq_getElem?_getD, List.getElem?_eq_getElem hk']
        simpa using z
      rw [n]
    refine ⟨?_, by rw [e1, e2]⟩
    rw [e1]
    refine ⟨by simp [len], fun k e p h1 h2 t => ?_, fun k p h2 j hj => ?_⟩
    · simp only at h1 h2
      by_cases hk : k < ends.length
      · rw [List.getElem?_append_left hk] at h1
        rw [List.getElem?_append_left (by omega)] at h2
        exact free k e p h1 h2 t
      · have hk2 : k = ends.length := by
          have := (List.getElem?_eq_some_iff.mp h1).1
          simp at this
          omega
        subst hk2
        rw [List.getElem?_append_right (Nat.le_refl _)] at h1
        rw [List.getElem?_append_right (by omega)] at h2
        simp [len] at h1 h2
        subst h1 h2
        rw [free_iff]
        constructor
        · intro h
          exact h i hi (by rw [isMember_pow]; simp)
        · intro h j _ hj
          rw [isMember_pow] at hj
          have e := of_decide_eq_true hj
          subst e
          exact h
    · simp only at h2
      rw [List.mem_append, List.mem_singleton]
      by_cases hk : k < parts.length
      · rw [List.getElem?_append_left hk] at h2
        exact .inl (has k p h2 j hj)
      · have hk2 : k = parts.length := by
          have := (List.getElem?_eq_some_iff.mp h2).1
          simp at this
          omega
        subst hk2
        rw [List.getElem?_append_right (Nat.le_refl _)] at h2
        simp at h2
        subst h2
        rw [isMember_pow] at hj
        exact .inr (of_decide_eq_true hj)
  · -- the first buyer who is free
    have hb : firstFree ends (lotAt m i).start < ends.length := Nat.lt_of_le_of_ne List.findIdx_le_length c
    generalize hbe : firstFree ends (lotAt m i).start = b at c hb
    have hfree : ends[b] ≤ (lotAt m i).start := by
      have z := List.findIdx_getElem (xs := ends) (p := fun e => decide (e ≤ (lotAt m i).start)) (w := by show firstFree ends _ < _; rw [hbe]; exact hb)
      have z := of_decide_eq_true z
      have e : ends.findIdx (fun e => decide (e ≤ (lotAt m i).start)) = b := hbe
      simp only [e] at z
      exact z
    have hbp : b < parts.length := by omega
    have gb : parts[b]? = some parts[b] := List.getElem?_eq_getElem hbp
    have ge : ends[b]? = some ends[b] := List.getElem?_eq_getElem hb
    have e1 : asgStep m (ends, parts) i = (ends.set b (endL (lotAt m i)), parts.set b (parts[b] + 2 ^ i)) := by
      unfold asgStep
      simp only [hbe, if_neg c]
      rw [List.getD_eq_getElem?_getD, gb]
      rfl
    have e2 : asgSpec m parts i = parts.set b (parts[b] + 2 ^ i) := by
      unfold asgSpec
      have n : (List.range parts.length).find? (fun k => isFreeAt m (elementAt parts k) (lotAt m i).start) = some b := by
        rw [List.find?_range_eq_some]
        refine ⟨?_, List.mem_range.mpr hbp, fun j hj => ?_⟩
        · rw [q b hb, List.getD_eq_getElem?_getD, ge]
          exact decide_eq_true hfree
        · rw [q j (by omega), List.getD_eq_getElem?_getD, List.getElem?_eq_getElem (show j < ends.length by omega)]
          have z := List.not_of_lt_findIdx (xs := ends) (p := fun e => decide (e ≤ (lotAt m i).start)) (i := j) (by
            have e : ends.findIdx (fun e => decide (e ≤ (lotAt m i).start)) = b := hbe
            rw [e]
            exact hj)
          simpa using z
      rw [n]
      simp only
      unfold elementAt
      rw [List.getD_eq_getElem?_getD, gb]
      rfl
    have hni : isMember parts[b] i = false := by
      cases z : isMember parts[b] i with
      | false => rfl
      | true => exact absurd (has b _ gb i z) hn
    refine ⟨?_, by rw [e1, e2]⟩
    rw [e1]
    refine ⟨by simp [len], fun k e p h1 h2 t => ?_, fun k p h2 j hj => ?_⟩
    · simp only at h1 h2
      by_cases hk : k = b
      · subst hk
        rw [List.getElem?_set_self hb] at h1
        rw [List.getElem?_set_self hbp] at h2
        cases h1
        cases h2
        rw [free_iff]
        have F := free k _ _ ge gb
        constructor
        · intro h
          exact h i hi (by rw [isMember_add hni]; simp)
        · intro h j hjl hj
          rw [isMember_add hni, Bool.or_eq_true, decide_eq_true_eq] at hj
          rcases hj with hj | hj
          · have w := (free_iff m _ _).mp ((F t).mpr (by unfold endL at h; omega)) j hjl hj
            exact w
          · subst hj
            exact h
      · rw [List.getElem?_set_ne (Ne.symm hk)] at h1 h2
        exact free k e p h1 h2 t
    · simp only at h2
      rw [List.mem_append, List.mem_singleton]
      by_cases hk : k = b
      · subst hk
        rw [List.getElem?_set_self hbp] at h2
        cases h2
        rw [isMember_add hni, Bool.or_eq_true, decide_eq_true_eq] at hj
        rcases hj with hj | hj
        · exact .inl (has k _ gb j hj)
        · exact .inr hj
      · rw [List.getElem?_set_ne (Ne.symm hk)] at h2
        exact .inl (has k p h2 j hj)
theorem asg_fold {m : Market} : ∀ (l done : List Nat) (s : List Nat × List Nat), AsgInv m done s → (∀ i ∈ l, i < m.lots.length) → (∀ i ∈ l, i ∉ done) → l.Nodup →
    (l.foldl (asgStep m) s).2 = l.foldl (asgSpec m) s.2
  | [], _, _, _, _, _, _ => rfl
  | i :: l, done, s, I, h1, h2, h3 => by
    have h4 := List.nodup_cons.mp h3
    obtain ⟨J, e⟩ := asg_step I (h1 i List.mem_cons_self) (h2 i List.mem_cons_self)
    rw [List.foldl_cons, List.foldl_cons, ← e]
    refine asg_fold l _ _ J (fun j hj => h1 j (List.mem_cons_of_mem _ hj)) (fun j hj hd => ?_) h4.2
    rcases List.mem_append.mp hd with hd | hd
    · exact h2 j (List.mem_cons_of_mem _ hj) hd
    · rw [List.mem_singleton] at hd
      subst hd
      exact h4.1 hj
def asgRun (m : Market) (l : List Nat) : List Nat × List Nat := l.foldl (asgStep m) ([], [])
theorem asg_is (m : Market) (mask : Nat) : (asgRun m (sortedByStart m mask)).2 = Kh432.assignment m mask := by
  have h := asg_fold (m := m) (sortedByStart m mask) [] ([], []) ⟨rfl, by simp, by simp⟩ (fun i hi => sorted_mem hi) (by simp) (sorted_nodup m mask)
  unfold asgRun
  rw [h]
  rfl
theorem asg_more (m : Market) (l : List Nat) (i : Nat) : asgRun m (l ++ [i]) = asgStep m (asgRun m l) i := by
  unfold asgRun
  rw [List.foldl_append]
  rfl
theorem asg_len (m : Market) (l : List Nat) : (asgRun m l).1.length = (asgRun m l).2.length ∧ (asgRun m l).1.length ≤ l.length := by
  have key : ∀ (l : List Nat) (s : List Nat × List Nat), s.1.length = s.2.length → (l.foldl (asgStep m) s).1.length = (l.foldl (asgStep m) s).2.length ∧ (l.foldl (asgStep m) s).1.length ≤ s.1.length + l.length := by
    intro l
    induction l with
    | nil => exact fun s h => ⟨h, Nat.le_refl _⟩
    | cons i l ih =>
      intro s h
      rw [List.foldl_cons]
      have e : (asgStep m s i).1.length = (asgStep m s i).2.length ∧ (asgStep m s i).1.length ≤ s.1.length + 1 := by
        unfold asgStep
        simp only [List.length_set]
        split <;> simp [h]
      obtain ⟨h1, h2⟩ := ih _ e.1
      refine ⟨h1, ?_⟩
      rw [List.length_cons]
      omega
  have h := key l ([], []) rfl
  exact ⟨h.1, by have z := h.2; rw [List.length_nil, Nat.zero_add] at z; exact z⟩
end Lc
/-! part LcP3 -/
set_option autoImplicit false
namespace Lc
open Kh432

/-! ### calls as lists of numbers -/
def arity (c : Nat) : Nat := [0, 5, 1, 2, 2, 1, 1, 2, 1, 1, 1, 1, 1, 1, 1, 2, 1, 2, 3, 0, 0, 0, 0, 0].getD c 0
def callN (c : Nat) (xs : List Nat) : Kh432.Call :=
  let param (k : Nat) := xs.getD k 0
  match c with
  | 0 => .create
  | 1 => .addLot (param 0) (param 1) (param 2) (param 3) (param 4)
  | 2 => .removeLot (param 0)
  | 3 => .setCost (param 0) (param 1)
  | 4 => .setDemand (param 0) (param 1)
  | 5 => .buy (param 0)
  | 6 => .buyCheapest (param 0)
  | 7 => .overlap (param 0) (param 1)
  | 8 => .isCompatible (param 0)
  | 9 => .buyersNeeded (param 0)
  | 10 => .assignBuyers (param 0)
  | 11 => .shortfall (param 0)
  | 12 => .evaluate (param 0)
  | 13 => .cheapestPlan (param 0)
  | 14 => .countPlans (param 0)
  | 15 => .maxUnits (param 0) (param 1)
  | 16 => .earliestPlan (param 0)
  | 17 => .cheapestWithoutLot (param 0) (param 1)
  | 18 => .cheapestIfDemand (param 0) (param 1) (param 2)
  | 19 => .savingBySecondBuyer
  | 20 => .busiestMoment
  | 21 => .listLots
  | 22 => .listDemand
  | _ => .status
def ofNats (xs : List Nat) : List Int := xs.map Int.ofNat
theorem getD_ofNats (xs : List Nat) (k : Nat) : ((ofNats xs).getD k 0).toNat = xs.getD k 0 := by
  unfold ofNats
  rw [List.getD_eq_getElem?_getD, List.getD_eq_getElem?_getD, List.getElem?_map]
  cases xs[k]? <;> rfl
theorem decode_is (c : Nat) (xs : List Nat) : Kh432Neutral.decodeCall [(c : Int) :: ofNats xs] = callN c xs := by
  have e : ∀ k, ((((([(c : Int) :: ofNats xs] : List (List Int)).getD 0 []).getD (k + 1) 0)).toNat : Nat) = xs.getD k 0 := fun k => getD_ofNats xs k
  unfold Kh432Neutral.decodeCall callN
  simp only [e]
  have e0 : (((([(c : Int) :: ofNats xs] : List (List Int)).getD 0 []).getD 0 0)).toNat = c := by simp
  rw [e0]
  match c with
  | 0 => rfl
  | 1 => rfl
  | 2 => rfl
  | 3 => rfl
  | 4 => rfl
  | 5 => rfl
  | 6 => rfl
  | 7 => rfl
  | 8 => rfl
  | 9 => rfl
  | 10 => rfl
  | 11 => rfl
  | 12 => rfl
  | 13 => rfl
  | 14 => rfl
  | 15 => rfl
  | 16 => rfl
  | 17 => rfl
  | 18 => rfl
  | 19 => rfl
  | 20 => rfl
  | 21 => rfl
  | 22 => rfl
  | n + 23 => rfl
/-- an answer's numbers -/
def res (r : Result) : List Int := r.status :: r.values
theorem step_is (s : Option Market) (c : Nat) (xs : List Nat) : Kh432Neutral.step s [(c : Int) :: ofNats xs] = ((execute s (callN c xs)).1, res (execute s (callN c xs)).2) := by
  unfold Kh432Neutral.step
  rw [decode_is]
  rfl
theorem callN_create {c : Nat} {xs : List Nat} : callN c xs = .create → c = 0 := by
  unfold callN
  intro h
  split at h <;> first | rfl | cases h
theorem exec_create (s : Option Market) (xs : List Nat) : execute s (callN 0 xs) = (some ⟨[], [0, 0, 0], [0, 0, 0], 0⟩, single 0) := by
  cases s <;> rfl
theorem exec_none {c : Nat} (xs : List Nat) (h : c ≠ 0) : execute none (callN c xs) = (none, single (-61)) := by
  unfold execute
  split
  · rename_i e
    exact absurd (callN_create e) h
  · rfl
  · rename_i e _
    cases e
theorem exec_some {c : Nat} (m : Market) (xs : List Nat) (h : c ≠ 0) : execute (some m) (callN c xs) = (some (apply m (callN c xs)).1, (apply m (callN c xs)).2) := by
  unfold execute
  split
  · rename_i e
    exact absurd (callN_create e) h
  · rename_i e _
    cases e
  · rename_i e _
    cases e
    rfl

/-! ### a good market stays good -/
theorem good_new : Good ⟨[], [0, 0, 0], [0, 0, 0], 0⟩ := ⟨by simp, rfl, rfl, by simp⟩
theorem good_after {m : Market} (h : Good m) (mask : Nat) : Good (afterPurchase m mask) := by
  obtain ⟨h1, h2, h3, h4⟩ := h
  refine ⟨?_, by simp [afterPurchase, kindCount], by simp [afterPurchase, kindCount], ?_⟩
  · have e := List.length_filter_le (fun p : Lot × Nat => !isMember mask p.2) m.lots.zipIdx
    rw [List.length_zipIdx] at e
    simp only [afterPurchase, List.length_map]
    omega
  · intro l hl
    simp only [afterPurchase, List.mem_map, List.mem_filter] at hl
    obtain ⟨⟨a, i⟩, ⟨hm, _⟩, rfl⟩ := hl
    refine h4 a ?_
    have := List.mem_zipIdx_iff_getElem?.mp hm
    exact List.mem_of_getElem? this
theorem good_apply {m : Market} (h : Good m) (c : Kh432.Call) : Good (apply m c).1 := by
  have h0 := h
  obtain ⟨h1, h2, h3, h4⟩ := h
  cases c with
  | addLot kind units start duration cost =>
    simp only [apply]
    split
    · exact h0
    · split
      · exact h0
      · rename_i c1 c2
        refine ⟨?_, h2, h3, ?_⟩
        · simp only [List.length_append, List.length_singleton, maxLots] at c2 ⊢
          omega
        · intro l hl
          rcases List.mem_append.mp hl with hl | hl
          · exact h4 l hl
          · rw [List.mem_singleton] at hl
            subst hl
            show 1 ≤ duration
            omega
  | removeLot i =>
    simp only [apply]
    split
    · exact h0
    · refine ⟨?_, h2, h3, fun l hl => h4 l (List.mem_of_mem_eraseIdx hl)⟩
      have := List.length_eraseIdx_le m.lots i
      simp only
      omega
  | setCost i cost =>
    simp only [apply]
    split
    · exact h0
    · rename_i c1
      split
      · exact h0
      · refine ⟨by simpa using h1, h2, h3, fun l hl => ?_⟩
        rcases List.mem_or_eq_of_mem_set hl with hl | hl
        · exact h4 l hl
        · subst hl
          have hi : i < m.lots.length := by
            unfold isLot at c1
            simpa using c1
          exact dur_at h4 hi
  | setDemand kind units =>
    simp only [apply]
    split
    · exact h0
    · split
      · exact h0
      · exact ⟨h1, by simpa using h2, h3, h4⟩
  | buy mask =>
    simp only [apply]
    split
    · exact h0
    · split
      · exact h0
      · exact good_after h0 mask
  | buyCheapest buyers =>
    simp only [apply]
    split
    · exact h0
    · split
      · exact h0
      · exact good_after h0 _
  | _ => exact h0

/-! ### the list of calls -/
theorem shape_is {p : Int} {a b : Nat} (h : PyKh432.shape p = some (a, b)) : ∃ c : Nat, p = (c : Int) ∧ c < 24 ∧ a = arity c ∧ b = 0 := by
  have key : ∀ c : Nat, c < 24 → PyKh432.shape (c : Int) = some (arity c, 0) := by decide
  by_cases hp : 0 ≤ p ∧ p < 24
  · obtain ⟨c, rfl⟩ : ∃ c : Nat, p = (c : Int) := ⟨p.toNat, by omega⟩
    have e := key c (by omega)
    rw [h] at e
    cases e
    exact ⟨c, rfl, by omega, rfl, rfl⟩
  · exfalso
    have n : ∀ k : Int, 0 ≤ k ∧ k < 24 → p ≠ k := fun k hk e => hp (by omega)
    unfold PyKh432.shape at h
    simp only [n 0 (by decide), n 1 (by decide), n 2 (by decide), n 3 (by decide), n 4 (by decide), n 5 (by decide), n 6 (by decide), n 7 (by decide), n 8 (by decide), n 9 (by decide), n 10 (by decide), n 11 (by decide),
      n 12 (by decide), n 13 (by decide), n 14 (by decide), n 15 (by decide), n 16 (by decide), n 17 (by decide), n 18 (by decide), n 19 (by decide), n 20 (by decide), n 21 (by decide), n 22 (by decide), n 23 (by decide), if_false] at h
    cases h
theorem whole_id (c : List (List Int)) : PyKh432.whole c = c := by
  unfold PyKh432.whole
  split <;> rfl
theorem map_whole (cs : List (List (List Int))) : cs.map PyKh432.whole = cs := by
  have e : PyKh432.whole = id := funext whole_id
  rw [e, List.map_id]
theorem calls_nil {f : Nat} {raw : List (List (List Int))} (h : PyFlat.calls PyKh432.shape f [] = some raw) : raw = [] := by
  cases f <;> (unfold PyFlat.calls at h; cases h; rfl)
theorem calls_turn {f : Nat} {p : Int} {r : List Int} {raw : List (List (List Int))} (h : PyFlat.calls PyKh432.shape f (p :: r) = some raw) :
    ∃ (c f' : Nat) (raw' : List (List (List Int))), p = (c : Int) ∧ c < 24 ∧ arity c ≤ r.length ∧ raw = [p :: r.take (arity c)] :: raw' ∧ PyFlat.calls PyKh432.shape f' (r.drop (arity c)) = some raw' := by
  cases f with
  | zero => unfold PyFlat.calls at h; cases h
  | succ f =>
    unfold PyFlat.calls at h
    cases h1 : PyFlat.call PyKh432.shape (p :: r) with
    | none => rw [h1] at h; cases h
    | some ct =>
      obtain ⟨c, t⟩ := ct
      rw [h1] at h
      simp only at h
      cases h2 : PyFlat.calls PyKh432.shape f t with
      | none => rw [h2] at h; cases h
      | some cs =>
        rw [h2] at h
        cases h
        unfold PyFlat.call at h1
        simp only at h1
        cases h3 : PyKh432.shape p with
        | none => rw [h3] at h1; cases h1
        | some ab =>
          obtain ⟨a, b⟩ := ab
          obtain ⟨k, rfl, hk, rfl, rfl⟩ := shape_is h3
          rw [h3] at h1
          simp only at h1
          by_cases hl : r.length < arity k
          · rw [if_pos hl] at h1; cases h1
          · rw [if_neg hl] at h1
            unfold PyFlat.rows at h1
            cases h1
            exact ⟨k, f, cs, rfl, hk, by omega, rfl, h2⟩
/-- what is left to be answered from a state -/
def answersFrom (s : Option Market) (raw : List (List (List Int))) : List Int := PyFlat.told (PyFlat.played Kh432Neutral.step s raw)
theorem from_nil (s : Option Market) : answersFrom s [] = [] := rfl
theorem from_cons (s : Option Market) (c : Nat) (xs : List Nat) (raw : List (List (List Int))) :
    answersFrom s ([(c : Int) :: ofNats xs] :: raw) = ((res (execute s (callN c xs)).2).length : Int) :: (res (execute s (callN c xs)).2 ++ answersFrom (execute s (callN c xs)).1 raw) := by
  have e : PyFlat.played Kh432Neutral.step s ([(c : Int) :: ofNats xs] :: raw) = (Kh432Neutral.step s [(c : Int) :: ofNats xs]).2 :: PyFlat.played Kh432Neutral.step (Kh432Neutral.step s [(c : Int) :: ofNats xs]).1 raw := by
    rw [PyFlat.played]
  unfold answersFrom PyFlat.told
  rw [e, List.flatMap_cons, step_is]
  rfl
theorem answers_is {l : List Int} {raw : List (List (List Int))} (h : PyFlat.calls PyKh432.shape l.length l = some raw) : PyKh432.answers l = answersFrom none raw := by
  unfold PyKh432.answers PyKh432.calls
  rw [h]
  simp only
  rw [map_whole]
  rfl
theorem asked_is {l : List Int} (h : PyKh432.answers_asked l = true) : ∃ raw, PyFlat.calls PyKh432.shape l.length l = some raw ∧ (PyKh432.answers l).length ≤ 10000000 := by
  unfold PyKh432.answers_asked at h
  cases e : PyFlat.calls PyKh432.shape l.length l with
  | none => rw [e] at h; cases h
  | some raw =>
    rw [e] at h
    simp only [Bool.and_eq_true] at h
    refine ⟨raw, rfl, ?_⟩
    have z := h.2
    unfold PyFlat.short at z
    exact of_decide_eq_true z
theorem nats_of : ∀ {l : List Int}, (∀ x ∈ l, 0 ≤ x) → ∃ xs : List Nat, l = ofNats xs
  | [], _ => ⟨[], rfl⟩
  | x :: l, h => by
    obtain ⟨xs, e⟩ := nats_of (l := l) fun y hy => h y (List.mem_cons_of_mem _ hy)
    have hx := h x List.mem_cons_self
    refine ⟨x.toNat :: xs, ?_⟩
    rw [e]
    show _ = Int.ofNat x.toNat :: ofNats xs
    congr 1
    exact (Int.toNat_of_nonneg hx).symm
end Lc
/-! part LcP4 -/
set_option autoImplicit false
namespace Lc
open Kh432
section
variable {m : Market}
/-! ### what each operation gives, way by way -/
theorem ap_add_bad {k u s d c : Nat} (h : 3 ≤ k ∨ u < 1 ∨ 30 < u ∨ 99 < s ∨ d < 1 ∨ 20 < d ∨ c < 1 ∨ 999 < c) : apply m (callN 1 [k, u, s, d, c]) = (m, single (-22)) := if_pos h
theorem ap_add_full {k u s d c : Nat} (h : ¬ (3 ≤ k ∨ u < 1 ∨ 30 < u ∨ 99 < s ∨ d < 1 ∨ 20 < d ∨ c < 1 ∨ 999 < c)) (h2 : 7 ≤ m.lots.length) : apply m (callN 1 [k, u, s, d, c]) = (m, single (-28)) := (if_neg h).trans (if_pos h2)
theorem ap_add {k u s d c : Nat} (h : ¬ (3 ≤ k ∨ u < 1 ∨ 30 < u ∨ 99 < s ∨ d < 1 ∨ 20 < d ∨ c < 1 ∨ 999 < c)) (h2 : ¬ 7 ≤ m.lots.length) :
    apply m (callN 1 [k, u, s, d, c]) = ({ m with lots := m.lots ++ [⟨k, u, s, d, c⟩] }, single m.lots.length) := (if_neg h).trans (if_neg h2)
theorem lot_no {x : Nat} (h : ¬ x < m.lots.length) : isLot m x = false := decide_eq_false h
theorem lot_yes {x : Nat} (h : x < m.lots.length) : ¬ isLot m x = false := by
  unfold isLot
  rw [decide_eq_true h]
  decide
theorem set_no {x : Nat} (h : ¬ x < 2 ^ m.lots.length) : isSet m x = false := decide_eq_false h
theorem set_yes {x : Nat} (h : x < 2 ^ m.lots.length) : ¬ isSet m x = false := by
  unfold isSet
  rw [decide_eq_true h]
  decide
theorem ap_rem_no {x : Nat} (h : ¬ x < m.lots.length) : apply m (callN 2 [x]) = (m, single (-2)) := if_pos (lot_no h)
theorem ap_rem {x : Nat} (h : x < m.lots.length) : apply m (callN 2 [x]) = ({ m with lots := m.lots.eraseIdx x }, single (m.lots.length - 1 : Nat)) := if_neg (lot_yes h)
theorem ap_sc_no {x c : Nat} (h : ¬ x < m.lots.length) : apply m (callN 3 [x, c]) = (m, single (-2)) := if_pos (lot_no h)
theorem ap_sc_bad {x c : Nat} (h : x < m.lots.length) (h2 : c < 1 ∨ 999 < c) : apply m (callN 3 [x, c]) = (m, single (-22)) := (if_neg (lot_yes h)).trans (if_pos h2)
theorem ap_sc {x c : Nat} (h : x < m.lots.length) (h2 : ¬ (c < 1 ∨ 999 < c)) : apply m (callN 3 [x, c]) = ({ m with lots := m.lots.set x { lotAt m x with cost := c } }, single (lotAt m x).cost) := (if_neg (lot_yes h)).trans (if_neg h2)
theorem ap_sd_no {k u : Nat} (h : 3 ≤ k) : apply m (callN 4 [k, u]) = (m, single (-2)) := if_pos h
theorem ap_sd_bad {k u : Nat} (h : ¬ 3 ≤ k) (h2 : 99 < u) : apply m (callN 4 [k, u]) = (m, single (-22)) := (if_neg h).trans (if_pos h2)
theorem ap_sd {k u : Nat} (h : ¬ 3 ≤ k) (h2 : ¬ 99 < u) : apply m (callN 4 [k, u]) = ({ m with demand := m.demand.set k u }, single (elementAt m.demand k)) := (if_neg h).trans (if_neg h2)
theorem ap_buy_no {x : Nat} (h : ¬ x < 2 ^ m.lots.length) : apply m (callN 5 [x]) = (m, single (-22)) := if_pos (set_no h)
theorem ap_buy_bad {x : Nat} (hg : Good m) (h : x < 2 ^ m.lots.length) (h2 : 1 < buyersNeeded m x) : apply m (callN 5 [x]) = (m, single (-33)) := by
  show apply m (.buy x) = _
  refine (if_neg (set_yes h)).trans (if_pos ?_)
  rw [compat_is hg.2.2.2, decide_eq_false (by omega)]
theorem ap_buy {x : Nat} (hg : Good m) (h : x < 2 ^ m.lots.length) (h2 : ¬ 1 < buyersNeeded m x) : apply m (callN 5 [x]) = (afterPurchase m x, single (totalCost m x)) := by
  show apply m (.buy x) = _
  refine (if_neg (set_yes h)).trans (if_neg ?_)
  rw [compat_is hg.2.2.2, decide_eq_true (show buyersNeeded m x ≤ 1 by omega)]
  decide
theorem ap_bc_bad {b : Nat} (h : isBuyerCount b = false) : apply m (callN 6 [b]) = (m, single (-22)) := if_pos h
theorem ap_bc_none {b : Nat} (h : isBuyerCount b = true) (e : cheapestPlan m b = none) : apply m (callN 6 [b]) = (m, single (-33)) := by
  show apply m (.buyCheapest b) = _
  refine (if_neg (by rw [h]; decide)).trans ?_
  show (match cheapestPlan m b with | none => (m, single (-33)) | some mask => (afterPurchase m mask, withValues (totalCost m mask) (members m mask))) = _
  rw [e]
theorem ap_bc {b x : Nat} (h : isBuyerCount b = true) (e : cheapestPlan m b = some x) : apply m (callN 6 [b]) = (afterPurchase m x, planResult m (some x)) := by
  show apply m (.buyCheapest b) = _
  refine (if_neg (by rw [h]; decide)).trans ?_
  show (match cheapestPlan m b with | none => (m, single (-33)) | some mask => (afterPurchase m mask, withValues (totalCost m mask) (members m mask))) = _
  rw [e]
  rfl
theorem ap_ov_no {i j : Nat} (h : ¬ (i < m.lots.length ∧ j < m.lots.length)) : apply m (callN 7 [i, j]) = (m, single (-2)) := by
  refine congrArg (Prod.mk m) (if_pos ?_)
  by_cases c : i < m.lots.length
  · exact .inr (lot_no fun z => h ⟨c, z⟩)
  · exact .inl (lot_no c)
theorem ap_ov {i j : Nat} (h : i < m.lots.length) (h2 : j < m.lots.length) : apply m (callN 7 [i, j]) = (m, single (if Kh432.overlap m i j then 1 else 0)) :=
  congrArg (Prod.mk m) (if_neg fun z => z.elim (lot_yes h) (lot_yes h2))
theorem ap_set_no {c x : Nat} (hc : c = 8 ∨ c = 9 ∨ c = 10 ∨ c = 11 ∨ c = 12) (h : ¬ x < 2 ^ m.lots.length) : apply m (callN c [x]) = (m, single (-22)) := by
  rcases hc with rfl | rfl | rfl | rfl | rfl <;> exact congrArg (Prod.mk m) (if_pos (set_no h))
theorem ap_co {x : Nat} (hg : Good m) (h : x < 2 ^ m.lots.length) : apply m (callN 8 [x]) = (m, single (if buyersNeeded m x ≤ 1 then 1 else 0)) := by
  show apply m (.isCompatible x) = _
  refine (congrArg (Prod.mk m) (if_neg (set_yes h))).trans ?_
  rw [compat_is hg.2.2.2]
  unfold ofBool
  by_cases c : buyersNeeded m x ≤ 1
  · rw [decide_eq_true c, if_pos rfl, if_pos c]
  · rw [decide_eq_false c, if_neg Bool.false_ne_true, if_neg c]
theorem ap_bn {x : Nat} (h : x < 2 ^ m.lots.length) : apply m (callN 9 [x]) = (m, single (buyersNeeded m x)) := congrArg (Prod.mk m) (if_neg (set_yes h))
theorem ap_as {x : Nat} (h : x < 2 ^ m.lots.length) : apply m (callN 10 [x]) = (m, withValues (assignment m x).length (assignment m x)) := congrArg (Prod.mk m) (if_neg (set_yes h))
theorem ap_sf {x : Nat} (hg : Good m) (h : x < 2 ^ m.lots.length) : apply m (callN 11 [x]) = (m, withValues 3 (shortL (lotsIn m x) m.demand)) := by
  show apply m (.shortfall x) = _
  refine (congrArg (Prod.mk m) (if_neg (set_yes h))).trans ?_
  rw [short_is hg.2.1]
  rfl
theorem ap_ev {x : Nat} (h : x < 2 ^ m.lots.length) : apply m (callN 12 [x]) = (m, withValues (totalCost m x) [totalUnits m x, endTime m x]) := congrArg (Prod.mk m) (if_neg (set_yes h))
theorem ap_b_bad {c b : Nat} (hc : c = 13 ∨ c = 14 ∨ c = 16) (h : isBuyerCount b = false) : apply m (callN c [b]) = (m, single (-22)) := by
  rcases hc with rfl | rfl | rfl <;> exact congrArg (Prod.mk m) (if_pos h)
theorem ap_cp {b : Nat} (h : isBuyerCount b = true) : apply m (callN 13 [b]) = (m, planResult m (cheapestPlan m b)) := by
  show apply m (.cheapestPlan b) = _
  exact congrArg (Prod.mk m) (if_neg (by rw [h]; decide))
theorem ap_ct {b : Nat} (hg : Good m) (h : isBuyerCount b = true) : apply m (callN 14 [b]) = (m, single (plansL m b m.demand).length) := by
  show apply m (.countPlans b) = _
  refine (congrArg (Prod.mk m) (if_neg (by rw [h]; decide))).trans ?_
  unfold plansL
  rw [plan_is hg.2.1]
theorem ap_mu_bad {b x : Nat} (h : isBuyerCount b = false ∨ 9999 < x) : apply m (callN 15 [b, x]) = (m, single (-22)) := congrArg (Prod.mk m) (if_pos h)
theorem ap_mu {b x : Nat} (h : isBuyerCount b = true) (h2 : ¬ 9999 < x) : apply m (callN 15 [b, x]) = (m, withValues (totalUnits m (Kh432.maxUnits m b x)) (totalCost m (Kh432.maxUnits m b x) :: members m (Kh432.maxUnits m b x))) := by
  show apply m (.maxUnits b x) = _
  exact congrArg (Prod.mk m) (if_neg fun z => z.elim (by rw [h]; decide) h2)
theorem ap_ep_none {b : Nat} (hg : Good m) (h : isBuyerCount b = true) (e : minimizing (fun mask => lastEnd (lotsIn m mask)) (plansL m b m.demand) = none) : apply m (callN 16 [b]) = (m, single (-33)) := by
  show apply m (.earliestPlan b) = _
  refine (congrArg (Prod.mk m) (if_neg (by rw [h]; decide))).trans ?_
  unfold plansL at e
  rw [plan_is hg.2.1, end_fun] at e
  rw [e]
theorem ap_ep {b x : Nat} (hg : Good m) (h : isBuyerCount b = true) (e : minimizing (fun mask => lastEnd (lotsIn m mask)) (plansL m b m.demand) = some x) : apply m (callN 16 [b]) = (m, withValues (endTime m x) (members m x)) := by
  show apply m (.earliestPlan b) = _
  refine (congrArg (Prod.mk m) (if_neg (by rw [h]; decide))).trans ?_
  unfold plansL at e
  rw [plan_is hg.2.1, end_fun] at e
  rw [e]
theorem ap_cw_no {b i : Nat} (h : ¬ i < m.lots.length) : apply m (callN 17 [b, i]) = (m, single (-2)) := congrArg (Prod.mk m) (if_pos (lot_no h))
theorem ap_cw_bad {b i : Nat} (h : i < m.lots.length) (h2 : isBuyerCount b = false) : apply m (callN 17 [b, i]) = (m, single (-22)) := congrArg (Prod.mk m) ((if_neg (lot_yes h)).trans (if_pos h2))
theorem ap_cw {b i : Nat} (hg : Good m) (h : i < m.lots.length) (h2 : isBuyerCount b = true) :
    apply m (callN 17 [b, i]) = (m, planResult m (minimizing (fun mask => costOf (lotsIn m mask)) ((plansL m b m.demand).filter fun mask => !isMember mask i))) := by
  show apply m (.cheapestWithoutLot b i) = _
  refine (congrArg (Prod.mk m) ((if_neg (lot_yes h)).trans (if_neg (by rw [h2]; decide)))).trans ?_
  unfold plansL
  rw [plan_is hg.2.1, cost_fun, List.filter_filter]
theorem ap_ci_no {b k u : Nat} (h : 3 ≤ k) : apply m (callN 18 [b, k, u]) = (m, single (-2)) := congrArg (Prod.mk m) (if_pos h)
theorem ap_ci_bad {b k u : Nat} (h : ¬ 3 ≤ k) (h2 : isBuyerCount b = false ∨ 99 < u) : apply m (callN 18 [b, k, u]) = (m, single (-22)) := congrArg (Prod.mk m) ((if_neg h).trans (if_pos h2))
theorem pres_demand (d : List Nat) (o : Option Nat) : planResult { m with demand := d } o = planResult m o := by cases o <;> rfl
theorem ap_ci {b k u : Nat} (hg : Good m) (h : ¬ 3 ≤ k) (h2 : isBuyerCount b = true) (h3 : ¬ 99 < u) : apply m (callN 18 [b, k, u]) = (m, planResult m (minimizing (fun mask => costOf (lotsIn m mask)) (plansL m b (m.demand.set k u)))) := by
  show apply m (.cheapestIfDemand b k u) = _
  refine (congrArg (Prod.mk m) ((if_neg h).trans (if_neg fun z => z.elim (by rw [h2]; decide) h3))).trans ?_
  rw [cheapest_if (by rw [List.length_set]; exact hg.2.1)]
theorem ap_sv_none (e2 : cheapestPlan m 2 = none) : apply m (callN 19 []) = (m, single (-33)) := by
  refine congrArg (Prod.mk m) ?_
  rw [e2]
  cases cheapestPlan m 1 <;> rfl
theorem ap_sv_one {b : Nat} (e1 : cheapestPlan m 1 = none) (e2 : cheapestPlan m 2 = some b) : apply m (callN 19 []) = (m, single (-34)) := by
  refine congrArg (Prod.mk m) ?_
  rw [e1, e2]
theorem ap_sv {a b : Nat} (e1 : cheapestPlan m 1 = some a) (e2 : cheapestPlan m 2 = some b) : apply m (callN 19 []) = (m, single (((totalCost m a : Nat) : Int) - ((totalCost m b : Nat) : Int))) := by
  have h := saving_le m a b e1 e2
  have e : ((totalCost m a - totalCost m b : Nat) : Int) = ((totalCost m a : Nat) : Int) - ((totalCost m b : Nat) : Int) := by omega
  rw [← e]
  refine congrArg (Prod.mk m) ?_
  rw [e1, e2]
theorem ap_ll : apply m (callN 21 []) = (m, withValues m.lots.length (m.lots.flatMap fun x => [x.kind, x.units, x.start, x.duration, x.cost])) := rfl
theorem ap_ld : apply m (callN 22 []) = (m, withValues 3 m.demand) := rfl
theorem ap_st : apply m (callN 23 []) = (m, withValues m.lots.length (m.spent :: m.bought)) := rfl

/-! ### the busiest moment -/
theorem range_lots (m : Market) : (List.range m.lots.length).map (lotAt m) = m.lots := by
  refine List.ext_getElem (by simp) fun i h1 h2 => ?_
  rw [List.getElem_map, List.getElem_range]
  exact lotAt_get (List.getElem?_eq_getElem h2)
theorem all_members (m : Market) : members m (2 ^ m.lots.length - 1) = List.range m.lots.length := by
  unfold members
  rw [List.filter_eq_self]
  intro i hi
  rw [isMember_testBit, Nat.testBit_two_pow_sub_one]
  exact decide_eq_true (List.mem_range.mp hi)
theorem all_lots (m : Market) : lotsIn m (2 ^ m.lots.length - 1) = m.lots := by
  unfold lotsIn
  rw [all_members, range_lots]
def busy (m : Market) (l : Lot) : Bool := onSale m.lots l.start == need m.lots
theorem foldl_max_mem : ∀ (l : List Nat) (a : Nat), l.foldl max a = a ∨ l.foldl max a ∈ l
  | [], _ => .inl rfl
  | x :: l, a => by
    rw [List.foldl_cons]
    rcases foldl_max_mem l (max a x) with h | h
    · rcases Nat.le_total a x with c | c
      · rw [Nat.max_eq_right c] at h ⊢
        rw [h]
        exact .inr List.mem_cons_self
      · rw [Nat.max_eq_left c] at h ⊢
        exact .inl h
    · exact .inr (List.mem_cons_of_mem _ h)
theorem need_mem {ls : List Lot} (h : ls ≠ []) : ∃ l ∈ ls, onSale ls l.start = need ls := by
  unfold need
  rcases foldl_max_mem (ls.map fun l => onSale ls l.start) 0 with e | e
  · have z := (foldl_max_le (ls.map fun l => onSale ls l.start) 0 0).mp (Nat.le_of_eq e)
    obtain ⟨l, hl⟩ := List.exists_mem_of_ne_nil ls h
    refine ⟨l, hl, ?_⟩
    rw [e]
    exact Nat.le_zero.mp (z.2 _ (List.mem_map.mpr ⟨l, hl, rfl⟩))
  · obtain ⟨l, hl, q⟩ := List.mem_map.mp e
    exact ⟨l, hl, q⟩
theorem ap_bm_none (h : m.lots = []) : apply m (callN 20 []) = (m, single (-6)) := by
  refine congrArg (Prod.mk m) ?_
  dsimp only
  rw [all_members, h]
  rfl
theorem ap_bm (h : m.lots ≠ []) : ∃ l r, m.lots.filter (busy m) = l :: r ∧ apply m (callN 20 []) = (m, withValues (need m.lots) [l.start]) := by
  have hq : (fun i => activeAtStart m (2 ^ m.lots.length - 1) i == buyersNeeded m (2 ^ m.lots.length - 1)) = busy m ∘ lotAt m := by
    funext i
    show _ = (onSale m.lots (lotAt m i).start == need m.lots)
    rw [← onSale_is, ← need_is, all_lots]
  obtain ⟨l0, hl0, q0⟩ := need_mem h
  have hf : l0 ∈ m.lots.filter (busy m) := List.mem_filter.mpr ⟨hl0, by unfold busy; rw [q0]; exact beq_self_eq_true _⟩
  cases e : m.lots.filter (busy m) with
  | nil => rw [e] at hf; cases hf
  | cons l r =>
    refine ⟨l, r, rfl, congrArg (Prod.mk m) ?_⟩
    have e1 : m.lots.find? (busy m) = some l := by
      rw [← List.head?_filter, e]
      rfl
    have e3 : ((List.range m.lots.length).map (lotAt m)).find? (busy m) = some l := by rw [range_lots]; exact e1
    rw [List.find?_map] at e3
    show (match (members m (2 ^ m.lots.length - 1)).find? (fun i => activeAtStart m (2 ^ m.lots.length - 1) i == buyersNeeded m (2 ^ m.lots.length - 1)) with
      | none => single (-6)
      | some i => withValues (buyersNeeded m (2 ^ m.lots.length - 1)) [(lotAt m i).start]) = _
    rw [hq, all_members]
    cases e4 : (List.range m.lots.length).find? (busy m ∘ lotAt m) with
    | none => rw [e4] at e3; cases e3
    | some i =>
      rw [e4] at e3
      have e5 : lotAt m i = l := Option.some.inj e3
      simp only
      rw [e5, ← need_is, all_lots]
end
end Lc
/-! part LcBase -/
namespace Lc
open PySem PySem.Spec PyProof.Rows L2

/-! ### rules that the layer lacks -/
def top (i : Nat) : Stmt := PySem.Challenge.pw_lotsonclocks_s01_answers.main.body.getD i (.Pass ⟨0, 0, 0, 0⟩)
/-- a def that keeps its promise, by its global name -/
structure Def (P : Program) (w : World) (K : PySem.W.Frag) (mg : Str → Option Value) (base : Heap) (x : Str) (k : Nat) (ps : List Str) (sp : Sp) : Prop where
  ex : ∃ (f : Addr) (fd : FuncData), FnOk P w K mg base CX0 k f fd ps sp ∧ mg x = some (.ref f) ∧ PySem.W.keepIn K (.ref f) = true ∧ Binds K fd ps []
def tDef (sp : Sp) (t : TA) : TE := fun σ H Q => t σ H fun vs H1 => sp vs H1 Q E0
section
variable {X : Cx} {k : Nat} {ps : List Str} {sp : Sp} {x : Str} {p pos : Pos} {e : Expr} {es : List Expr} {t : TA}
theorem nilE {sp : Sp} {Q : VK} {E : XK} : (fun (vs : List V) (H1 : Hp) => sp (vs ++ []) H1 Q E) = fun vs H1 => sp vs H1 Q E := by
  funext vs H1
  rw [List.append_nil]
theorem pe_def (D : Def X.prog X.w X.K X.mg X.base x k ps sp) (hr : Room k X.A) (hg : Gl X x) (ha : PA X (e :: es) t) (hdb : (x == ("__debug__" : Str)) = false := by decide)
    (he : starEach (e :: es) X.env = (false, eval e X.env) :: starEach es X.env := by rfl) (hpl : (backTo pos (starEach es X.env)).any (·.1) = false := by rfl) : PE X (.Call (.Name x p) (e :: es) [] pos) (tDef sp t) := by
  obtain ⟨f, fd, F, hm, hk, hb⟩ := D.ex
  refine ⟨fun pins s σ H Q I h => ?_⟩
  refine (pe_call (E := E0) (dvs := []) F hr hg hm hk hb .nil pass0 ha hdb he hpl).run pins s σ H Q I ?_
  show t σ H (fun vs H1 => sp (vs ++ []) H1 Q E0)
  rw [nilE]
  exact h
/-- a class that is made by its __init__, by its global name -/
structure ClsDef (P : Program) (w : World) (K : PySem.W.Frag) (mg : Str → Option Value) (base : Heap) (x : Str) (C : Addr) (k : Nat) (ps : List Str) (sp : Sp) : Prop where
  ex : ∃ (f : Addr) (fd : FuncData), FnOk P w K mg base CX0 k f fd ps sp ∧ mg x = some (.ref C) ∧ Mk K C f ∧ Binds K fd ps []
def tNew (C : Addr) (sp : Sp) (t : TA) : TE := fun σ H Q => t σ H fun vs H1 => ∀ x dx, H1 x = none → H1 dx = none → dx ≠ x →
  sp (.ref x :: vs) (upd (upd H1 dx (.own x)) x (.ins C dx [])) (fun v H2 => v = .non ∧ Q (.ref x) H2) E0
theorem pe_new {C : Addr} (D : ClsDef X.prog X.w X.K X.mg X.base x C k ps sp) (hr : Room (k + 1) X.A) (hg : Gl X x) (ha : PA X (e :: es) t) (hdb : (x == ("__debug__" : Str)) = false := by decide)
    (he : starEach (e :: es) X.env = (false, eval e X.env) :: starEach es X.env := by rfl) (hpl : (backTo pos (starEach es X.env)).any (·.1) = false := by rfl) : PE X (.Call (.Name x p) (e :: es) [] pos) (tNew C sp t) := by
  obtain ⟨f, fd, F, hm, hk, hb⟩ := D.ex
  refine ⟨fun pins s σ H Q I h => ?_⟩
  refine (pe_make (E := E0) (dvs := []) hk F hr hg hm hb .nil pass0 ha hdb he hpl).run pins s σ H Q I ?_
  show t σ H (fun vs H1 => ∀ x dx, H1 x = none → H1 dx = none → dx ≠ x → sp (.ref x :: (vs ++ [])) (upd (upd H1 dx (.own x)) x (.ins C dx [])) (fun v H2 => v = .non ∧ Q (.ref x) H2) E0)
  have e0 : (fun (vs : List V) (H1 : Hp) => ∀ x dx, H1 x = none → H1 dx = none → dx ≠ x → sp (.ref x :: (vs ++ [])) (upd (upd H1 dx (.own x)) x (.ins C dx [])) (fun v H2 => v = .non ∧ Q (.ref x) H2) E0) =
      fun vs H1 => ∀ x dx, H1 x = none → H1 dx = none → dx ≠ x → sp (.ref x :: vs) (upd (upd H1 dx (.own x)) x (.ins C dx [])) (fun v H2 => v = .non ∧ Q (.ref x) H2) E0 := by
    funext vs H1
    rw [List.append_nil]
  rw [e0]
  exact h
theorem pe_new0 {C : Addr} (D : ClsDef X.prog X.w X.K X.mg X.base x C k ps sp) (hr : Room (k + 1) X.A) (hg : Gl X x) (hdb : (x == ("__debug__" : Str)) = false := by decide) : PE X (.Call (.Name x p) [] [] pos) (tNew C sp tNil) := by
  obtain ⟨f, fd, F, hm, hk, hb⟩ := D.ex
  refine ⟨fun pins s σ H Q I h => ?_⟩
  exact (pe_make0 (E := E0) (dvs := []) hk F hr hg hm hb .nil pass0 hdb).run pins s σ H Q I h
/-- a local name that holds a def: which one is told by the reading -/
def tHeld (P : Program) (w : World) (K : PySem.W.Frag) (mg : Str → Option Value) (base : Heap) (k i : Nat) (t : TA) : TE := fun σ H Q => ∃ f sp, σ[i]? = some (some (.ref f)) ∧ Held P w K mg base k f sp ∧ t σ H fun vs H1 => sp vs H1 Q E0
theorem pe_held {i : Nat} (hr : Room k X.A) (hN : X.N[i]? = some x) (hv : Vis X.env.scope x) (ha : PA X (e :: es) t)
    (hdb : (x == ("__debug__" : Str)) = false := by decide) (hcd : (x == ("__classdict__" : Str)) = false := by decide)
    (he : starEach (e :: es) X.env = (false, eval e X.env) :: starEach es X.env := by rfl) (hpl : (backTo pos (starEach es X.env)).any (·.1) = false := by rfl) : PE X (.Call (.Name x p) (e :: es) [] pos) (tHeld X.prog X.w X.K X.mg X.base k i t) := by
  refine ⟨fun pins s σ H Q I h => ?_⟩
  obtain ⟨f, sp, hs, hS, ht⟩ := h
  exact (pe_callA (i := i) (S := fun a => if a = f then some sp else none) (fun g sp' e => by
    by_cases c : g = f
    · subst c
      rw [if_pos rfl] at e
      cases e
      exact hS
    · rw [if_neg c] at e
      cases e) hr hN hv ha hdb hcd he hpl).run pins s σ H Q I ⟨f, sp, hs, if_pos rfl, ht⟩
end
/-- max(xs, default=d) -/
def rMaxD (K : PySem.W.Frag) : List V → List V → Hp → VK → Prop := fun xs zs H Q => ∃ (a : Addr) (ns : List Nat), xs = [.ref a] ∧ zs = [.int 0] ∧ SqL K H a (ns.map fun n : Nat => V.int (n : Int)) ∧ Q (.int ((ns.foldl max 0 : Nat) : Int)) H
theorem dp_ints {K : PySem.W.Frag} {H : Hp} : ∀ ns : List Int, DpAll K H (ns.map V.int) (ns.map PyData.int)
  | [] => .nil
  | n :: r => .cons (.int n) (dp_ints r)
theorem foldl_max_cast (ns : List Nat) (k : Nat) : (ns.map fun n : Nat => (n : Int)).foldl max (k : Int) = ((ns.foldl max k : Nat) : Int) := by
  induction ns generalizing k with
  | nil => rfl
  | cons a r ih =>
    rw [List.map_cons, List.foldl_cons, List.foldl_cons, ← ih]
    congr 1
    omega
theorem cr_maxD {X : Cx} {k : Nat} (hc : X.calm = true) (hr : Room k X.A) : CallRK X (.builtin "max") ["default"] (rMaxD X.K) := by
  intro pins s σ H xs zs us ws Q I r1 r2 h
  obtain ⟨a, ns, rfl, rfl, hs, q⟩ := h
  obtain ⟨its, rv, hl, hz⟩ := I.list hs
  obtain ⟨u, rfl, ru⟩ := vals1 r1
  obtain rfl : u = Value.ref a := ru
  obtain ⟨d, rfl, rd⟩ := vals1 r2
  have em : (ns.map fun n : Nat => V.int (n : Int)) = (ns.map fun n : Nat => (n : Int)).map V.int := by rw [List.map_map]; rfl
  rw [em] at rv
  obtain ⟨as, ra⟩ := Dp.readsAll I _ _ _ (dp_ints (K := X.K) (H := H) (ns.map fun n : Nat => (n : Int))) rv
  have hd := hr.units
  have dep : PyData.depthAll ((ns.map fun n : Nat => (n : Int)).map PyData.int) ≤ 1 := by
    generalize (ns.map fun n : Nat => (n : Int)) = ks
    induction ks with
    | nil => exact Nat.zero_le _
    | cons k r ih => exact Nat.max_le.mpr ⟨by rw [PyData.depth]; decide, ih⟩
  refine PySem.W.max_list_default (I.ok.hd hc) hl.isList (xs := (ns.map fun n : Nat => (n : Int)).map PyData.int) (as := as) (by simpa using ra) ⟨fun x hx y hy => ?_, fun x hx e => ?_⟩ (by omega) (fun h0 h' tk k => ?_) fun y ys i v h' tk bs he hv hrd k => ?_
  · obtain ⟨i, _, rfl⟩ := List.mem_map.mp hx
    obtain ⟨j, _, rfl⟩ := List.mem_map.mp hy
    rfl
  · obtain ⟨i, _, rfl⟩ := List.mem_map.mp hx
    cases e
  · have e0 : ns = [] := by simpa using h0
    subst e0
    exact ⟨.int 0, H, I.kept (t' := tk) k, rd, q⟩
  · cases ns with
    | nil => cases he
    | cons n ns =>
      cases he
      have e1 := PySem.W.maxD_ints (n : Int) (ns.map fun n : Nat => (n : Int))
      have e2 : PySem.W.maxD (PyData.int (n : Int)) ((ns.map fun n : Nat => (n : Int)).map PyData.int) = .int (((ns.foldl max n : Nat) : Int)) := by
        rw [e1, foldl_max_cast]
      have hrd' : Reads h' v (.int ((ns.foldl max n : Nat) : Int)) bs := by
        rw [← e2]
        exact hrd
      have e3 : (n :: ns).foldl max 0 = ns.foldl max n := by
        rw [List.foldl_cons, Nat.zero_max]
      rw [e3] at q
      cases hrd' with
      | int _ t => exact ⟨.int _, H, I.kept (t' := tk) k, ⟨t, rfl⟩, q⟩
/-- xs[i] as it stands ahead of xs[i] op= .. -/
def rGetL (K : PySem.W.Frag) : V → V → Hp → VK → Prop := fun o i H Q => ∃ (p : Addr) (xs : List V) (j : Nat) (v : V), o = .ref p ∧ i = .int (j : Int) ∧ SqL K H p xs ∧ xs[j]? = some v ∧ Q v H
theorem get_list {X : Cx} : PGet X (rGetL X.K) := by
  intro pins s σ H o i ov iv Q I ro ri h
  obtain ⟨p, xs, j, z, rfl, rfl, hq, he, q⟩ := h
  cases ro
  obtain ⟨t, rfl⟩ := ri
  obtain ⟨its, r, pl, hz⟩ := I.list hq
  obtain ⟨u, hu, ru⟩ := r.get he
  have hl := r.length
  have hn := line63
  have hj := (List.getElem?_eq_some_iff.mp he).1
  exact wpAny_getItem_list pl.isList (by omega) (by omega) (x := u) (by simpa using hu) ⟨z, H, I, ru, q⟩
end Lc
/-! part LcHeap -/
namespace Lc
open PySem PySem.Spec PyProof.Rows L2

/-! ### what lies in the heap -/
def natV (n : Nat) : V := .int (n : Int)
def lF (l : Kh432.Lot) : List (Str × V) := [("kind", natV l.kind), ("units", natV l.units), ("start", natV l.start), ("duration", natV l.duration), ("cost", natV l.cost)]
def LotAt (C : Addr) (H : Hp) (a : Addr) (l : Kh432.Lot) : Prop := ∃ dx, H a = some (.ins C dx (lF l))
structure LotsAt (C : Addr) (H : Hp) (as : List Addr) (ls : List Kh432.Lot) : Prop where
  len : as.length = ls.length
  lot : ∀ (i : Nat) (a : Addr) (l : Kh432.Lot), as[i]? = some a → ls[i]? = some l → LotAt C H a l
theorem lk_here {k : Str} {v : V} {r : List (Str × V)} : List.lookup k ((k, v) :: r) = some v := by
  have e : (k == k) = true := beq_self_eq_true k
  simp only [List.lookup, e]
theorem lk_past {k g : Str} {v : V} {r : List (Str × V)} (h : (k == g) = false) : List.lookup k ((g, v) :: r) = List.lookup k r := by
  simp only [List.lookup, h]
theorem put_here {f : Str} {v x : V} {r : List (Str × V)} : putF f v ((f, x) :: r) = (f, v) :: r := if_pos rfl
theorem put_past {f g : Str} {v x : V} {r : List (Str × V)} (h : ¬ g = f) : putF f v ((g, x) :: r) = (g, x) :: putF f v r := if_neg h
theorem lF_kind (l : Kh432.Lot) : (lF l).lookup ("kind" : Str) = some (natV l.kind) := lk_here
theorem lF_units (l : Kh432.Lot) : (lF l).lookup ("units" : Str) = some (natV l.units) := (lk_past (by decide +kernel)).trans lk_here
theorem lF_start (l : Kh432.Lot) : (lF l).lookup ("start" : Str) = some (natV l.start) := (lk_past (by decide +kernel)).trans ((lk_past (by decide +kernel)).trans lk_here)
theorem lF_dur (l : Kh432.Lot) : (lF l).lookup ("duration" : Str) = some (natV l.duration) := (lk_past (by decide +kernel)).trans ((lk_past (by decide +kernel)).trans ((lk_past (by decide +kernel)).trans lk_here))
theorem lF_cost (l : Kh432.Lot) : (lF l).lookup ("cost" : Str) = some (natV l.cost) :=
  (lk_past (by decide +kernel)).trans ((lk_past (by decide +kernel)).trans ((lk_past (by decide +kernel)).trans ((lk_past (by decide +kernel)).trans lk_here)))
theorem lF_put (l : Kh432.Lot) (c : Nat) : putF "cost" (natV c) (lF l) = lF { l with cost := c } :=
  (put_past (by decide +kernel)).trans (congrArg _ ((put_past (by decide +kernel)).trans (congrArg _ ((put_past (by decide +kernel)).trans (congrArg _ ((put_past (by decide +kernel)).trans (congrArg _ put_here)))))))
/-- the market's attributes: its lots, its demand, what it has bought, what it has spent -/
def mF (L D B : Addr) (n : Nat) : List (Str × V) := [("lots", .ref L), ("demand", .ref D), ("bought", .ref B), ("spent", natV n)]
theorem mF_lots (L D B : Addr) (n : Nat) : (mF L D B n).lookup ("lots" : Str) = some (.ref L) := lk_here
theorem mF_dem (L D B : Addr) (n : Nat) : (mF L D B n).lookup ("demand" : Str) = some (.ref D) := (lk_past (by decide +kernel)).trans lk_here
theorem mF_bgt (L D B : Addr) (n : Nat) : (mF L D B n).lookup ("bought" : Str) = some (.ref B) := (lk_past (by decide +kernel)).trans ((lk_past (by decide +kernel)).trans lk_here)
theorem mF_spent (L D B : Addr) (n : Nat) : (mF L D B n).lookup ("spent" : Str) = some (natV n) := (lk_past (by decide +kernel)).trans ((lk_past (by decide +kernel)).trans ((lk_past (by decide +kernel)).trans lk_here))
theorem mF_putL (L D B M : Addr) (n : Nat) : putF "lots" (.ref M) (mF L D B n) = mF M D B n := put_here
theorem mF_putD (L D B M : Addr) (n : Nat) : putF "demand" (.ref M) (mF L D B n) = mF L M B n := (put_past (by decide +kernel)).trans (congrArg _ put_here)
theorem mF_putB (L D B M : Addr) (n : Nat) : putF "bought" (.ref M) (mF L D B n) = mF L D M n := (put_past (by decide +kernel)).trans (congrArg _ ((put_past (by decide +kernel)).trans (congrArg _ put_here)))
theorem mF_putS (L D B : Addr) (n k : Nat) : putF "spent" (natV k) (mF L D B n) = mF L D B k :=
  (put_past (by decide +kernel)).trans (congrArg _ ((put_past (by decide +kernel)).trans (congrArg _ ((put_past (by decide +kernel)).trans (congrArg _ put_here)))))
structure MktAt (C CM : Addr) (H : Hp) (p : Addr) (m : Kh432.Market) (L D B : Addr) (as : List Addr) : Prop where
  ins : ∃ dx, H p = some (.ins CM dx (mF L D B m.spent))
  lst : H L = some (.lst (as.map V.ref))
  lots : LotsAt C H as m.lots
  dem : H D = some (.lst (m.demand.map natV))
  bgt : H B = some (.lst (m.bought.map natV))
  nd : as.Nodup
  ld : L ≠ D
  lb : L ≠ B
  db : D ≠ B
  pa : p ∉ as
/-- the market's own addresses -/
def fpOf (p L D B : Addr) (as : List Addr) : List Addr := p :: L :: D :: B :: as
/-- a market stands at p, on just these addresses -/
def Mkt (C CM : Addr) (H : Hp) (p : Addr) (m : Kh432.Market) (fp : List Addr) : Prop := ∃ L D B as, fp = fpOf p L D B as ∧ MktAt C CM H p m L D B as
section
variable {C CM : Addr} {H H' : Hp} {p L D B : Addr} {m : Kh432.Market} {as fp : List Addr} {ls : List Kh432.Lot}
theorem LotAt.same {a : Addr} {l : Kh432.Lot} (h : LotAt C H a l) (s : Same H H') : LotAt C H' a l := by
  obtain ⟨dx, e⟩ := h
  exact ⟨dx, s _ _ e⟩
theorem LotsAt.same (h : LotsAt C H as ls) (s : Same H H') : LotsAt C H' as ls := ⟨h.len, fun i a l h1 h2 => (h.lot i a l h1 h2).same s⟩
theorem LotsAt.mem (h : LotsAt C H as ls) {a : Addr} (ha : a ∈ as) : ∃ dx l, H a = some (.ins C dx (lF l)) := by
  obtain ⟨i, hi, rfl⟩ := List.getElem_of_mem ha
  have hl : i < ls.length := by rw [← h.len]; exact hi
  obtain ⟨dx, e⟩ := h.lot i as[i] ls[i] (List.getElem?_eq_getElem hi) (List.getElem?_eq_getElem hl)
  exact ⟨dx, _, e⟩
theorem LotsAt.get (h : LotsAt C H as ls) {i : Nat} {l : Kh432.Lot} (hl : ls[i]? = some l) : ∃ a, as[i]? = some a ∧ LotAt C H a l := by
  have hi : i < as.length := by rw [h.len]; exact (List.getElem?_eq_some_iff.mp hl).1
  exact ⟨as[i], List.getElem?_eq_getElem hi, h.lot i _ _ (List.getElem?_eq_getElem hi) hl⟩
theorem LotsAt.get' (h : LotsAt C H as ls) {i : Nat} {a : Addr} (hl : as[i]? = some a) : ∃ l, ls[i]? = some l ∧ LotAt C H a l := by
  have hi : i < ls.length := by rw [← h.len]; exact (List.getElem?_eq_some_iff.mp hl).1
  exact ⟨ls[i], List.getElem?_eq_getElem hi, h.lot i _ _ hl (List.getElem?_eq_getElem hi)⟩
theorem MktAt.same (h : MktAt C CM H p m L D B as) (s : Same H H') : MktAt C CM H' p m L D B as := by
  obtain ⟨⟨dx, e⟩, h2, h3, h4, h5, h6, h7, h8, h9, h10⟩ := h
  exact ⟨⟨dx, s _ _ e⟩, s _ _ h2, h3.same s, s _ _ h4, s _ _ h5, h6, h7, h8, h9, h10⟩
theorem Mkt.same (h : Mkt C CM H p m fp) (s : Same H H') : Mkt C CM H' p m fp := by
  obtain ⟨L, D, B, as, e, h⟩ := h
  exact ⟨L, D, B, as, e, h.same s⟩
theorem MktAt.len (h : MktAt C CM H p m L D B as) : as.length = m.lots.length := h.lots.len
theorem MktAt.there (h : MktAt C CM H p m L D B as) : ∀ b ∈ fpOf p L D B as, ∃ o, H b = some o := by
  intro b hb
  unfold fpOf at hb
  simp only [List.mem_cons] at hb
  rcases hb with rfl | rfl | rfl | rfl | hb
  · obtain ⟨dx, e⟩ := h.ins
    exact ⟨_, e⟩
  · exact ⟨_, h.lst⟩
  · exact ⟨_, h.dem⟩
  · exact ⟨_, h.bgt⟩
  · obtain ⟨dx, l, e⟩ := h.lots.mem hb
    exact ⟨_, e⟩
theorem Mkt.there (h : Mkt C CM H p m fp) : ∀ b ∈ fp, ∃ o, H b = some o := by
  obtain ⟨L, D, B, as, rfl, h⟩ := h
  exact h.there
theorem Mkt.not (h : Mkt C CM H p m fp) {r : Addr} (e : H r = none) : r ∉ fp := fun hr => by
  obtain ⟨o, q⟩ := h.there r hr
  rw [e] at q
  cases q
end
/-- a new object leaves all else -/
theorem same_new {H : Hp} {a : Addr} {o : HO} (h : H a = none) : Same H (upd H a o) := fun b u e => by
  rw [upd_ne (ne_of_none e h)]
  exact e
theorem same_upd {H H' : Hp} {a : Addr} {o : HO} (s : Same H H') (h : H a = none) : Same H (L2.upd H' a o) := fun b u e => by
  rw [upd_ne (ne_of_none e h)]
  exact s b u e
/-- a test whose truth is told otherwise -/
theorem if_of {c d : Bool} (e : c = d) {A B : Prop} (h1 : d = true → A) (h2 : d = false → B) : if c = true then A else B := by
  subst e
  cases c with
  | true => rw [if_pos rfl]; exact h1 rfl
  | false => rw [if_neg Bool.false_ne_true]; exact h2 rfl
theorem mapRef {as : List Addr} {i : Nat} {x : V} (h : (as.map V.ref)[i]? = some x) : ∃ a, as[i]? = some a ∧ x = .ref a := by
  rw [List.getElem?_map] at h
  cases e : as[i]? with
  | none => rw [e] at h; cases h
  | some a =>
    rw [e] at h
    exact ⟨a, rfl, (Option.some.inj h).symm⟩
theorem mapNat {ns : List Nat} {i : Nat} {x : V} (h : (ns.map natV)[i]? = some x) : ∃ n, ns[i]? = some n ∧ x = natV n := by
  rw [List.getElem?_map] at h
  cases e : ns[i]? with
  | none => rw [e] at h; cases h
  | some a =>
    rw [e] at h
    exact ⟨a, rfl, (Option.some.inj h).symm⟩
theorem take_more {α : Type} {l : List α} {i : Nat} {x : α} (h : l[i]? = some x) : l.take (i + 1) = l.take i ++ [x] := by
  rw [List.take_add_one, h]
  rfl
theorem line (n : Nat) (h : n ≤ 16000000) : n ≤ sizeLine := by
  rw [sizeLine_eq]
  omega
theorem line' (n : Nat) (h : n ≤ 16000000) : n < sizeLine := by
  rw [sizeLine_eq]
  omega

/-! ### what the top has written -/
structure Txt (K : PySem.W.Frag) (mg : Str → Option Value) (C CM : Addr) : Prop where
  cl : Cls K C
  cm : Cls K CM
  aK : NoAttr K C "kind"
  aU : NoAttr K C "units"
  aS : NoAttr K C "start"
  aD : NoAttr K C "duration"
  aC : NoAttr K C "cost"
  mL : NoAttr K CM "lots"
  mD : NoAttr K CM "demand"
  mB : NoAttr K CM "bought"
  mS : NoAttr K CM "spent"
  len : mg "len" = none
  range : mg "range" = none
  max : mg "max" = none
  sum : mg "sum" = none
  all : mg "all" = none
  zip : mg "zip" = none
  enum : mg "enumerate" = none
  sorted : mg "sorted" = none
  list : mg "list" = none
  kinds : ∃ t, mg "KINDS" = some (.int 3 t)
  mostLots : ∃ t, mg "MOST_LOTS" = some (.int 7 t)
  mostBuyers : ∃ t, mg "MOST_BUYERS" = some (.int 3 t)
  create : ∃ t, mg "CREATE" = some (.int 0 t)
theorem pe_const {X : Cx} {x : Str} {i : Int} {pos : Pos} (hm : ∃ t, X.mg x = some (.int i t)) (hg : Gl X x) (hd : (x == ("__debug__" : Str)) = false := by decide) : PE X (.Name x pos) (tC (.int i)) := by
  obtain ⟨t, e⟩ := hm
  exact pe_glob hg e ⟨t, rfl⟩ hd
end Lc
/-! part LcA -/
namespace Lc
open PySem PySem.Spec PyProof.Rows L2

abbrev sEnd : Stmt := top 7
theorem scEnd : FnScope ["lot"] ["lot"] (defScope sEnd) := ⟨rfl, rfl, rfl, by decide +kernel, rfl, by decide +kernel, by decide +kernel⟩
def spEnd (C : Addr) : Sp := fun vs H Q _ => ∃ a l, vs = [.ref a] ∧ LotAt C H a l ∧ Q (natV (endL l)) H
abbrev sBit : Stmt := top 4
theorem scBit : FnScope ["number", "mask", "turn"] ["number"] (defScope sBit) := ⟨rfl, rfl, rfl, by decide +kernel, rfl, by decide +kernel, by decide +kernel⟩
def spBit : Sp := fun vs H Q _ => ∃ n : Nat, vs = [natV n] ∧ n ≤ 60 ∧ Q (natV (2 ^ n)) H
abbrev sMem : Stmt := top 5
theorem scMem : FnScope ["mask", "many", "found", "number"] ["mask", "many"] (defScope sMem) := ⟨rfl, rfl, rfl, by decide +kernel, rfl, by decide +kernel, by decide +kernel⟩
def spMem : Sp := fun vs H Q _ => ∃ mask n : Nat, vs = [natV mask, natV n] ∧ n ≤ 1000 ∧ ∀ H' r, Same H H' → H r = none → H' r = some (.lst ((mem mask n).map natV)) → Q (.ref r) H'

section
variable {P : Program} {w : World} {K : PySem.W.Frag} {mg : Str → Option Value} {base : Heap} {C CM : Addr}
theorem ok_end {f : Addr} {fd : FuncData} (F : Fun K "end_of" "end_of" sEnd f fd) (T : Txt K mg C CM) : FnOk P w K mg base CX0 1 f fd ["lot"] (spEnd C) := by
  refine F.ok scEnd (fun vs H Q E h => ?_) (fun cdv A outer s H vs Q E hr h => ?_)
  · obtain ⟨a, l, rfl, _⟩ := h
    rfl
  · obtain ⟨a, l, rfl, ⟨dx, ha⟩, k⟩ := h
    refine ⟨_, pss_one (ps_ret (pe_op op_add (pe_fld (pv 0) rfl) (pe_fld (pv 0) rfl))), ?_⟩
    exact ⟨_, rfl, a, C, dx, _, _, rfl, ha, T.cl, T.aS, lF_start l, _, rfl, a, C, dx, _, _, rfl, ha, T.cl, T.aD, lF_dur l, _, _, rfl, rfl, k⟩
theorem ok_bit {f : Addr} {fd : FuncData} (F : Fun K "bit_of" "bit_of" sBit f fd) (T : Txt K mg C CM) : FnOk P w K mg base CX0 1 f fd ["number"] spBit := by
  refine F.ok scBit (fun vs H Q E h => ?_) (fun cdv A outer s H vs Q E hr h => ?_)
  · obtain ⟨n, rfl, _⟩ := h
    rfl
  · obtain ⟨n, rfl, hn, k⟩ := h
    refine ⟨_, pss_cons (ps_set (i := 1) scBit.nd rfl (.inl rfl) pe_int)
      (pss_cons (ps_for PassesOwn.never rfl (pi_range1 (by rfl) T.range (pa_cons (pv 0) pa_nil)) (pg_name (i := 2) scBit.nd rfl (.inl rfl))
        (pss_one (ps_set (i := 1) scBit.nd rfl (.inl rfl) (pe_op op_mul pe_int (pv 1)))))
      (pss_one (ps_ret (pv 1)))), ?_⟩
    refine ⟨_, rfl, _, rfl, by omega, by omega, for_range (n := n) (fun i σ H' => H' = H ∧ ∃ v, σ = [some (natV n), some (natV (2 ^ i)), v]) ⟨rfl, none, rfl⟩ ?_ ?_⟩
    · rintro i σ H' hi ⟨rfl, v, rfl⟩
      refine ⟨_, rfl, _, _, rfl, rfl, .inl ⟨by decide, by decide⟩, rfl, some (.int (0 + (i : Int))), ?_⟩
      show [_, some (V.int (2 * ((2 ^ i : Nat) : Int))), _] = _
      have e : (2 * ((2 ^ i : Nat) : Int)) = ((2 ^ (i + 1) : Nat) : Int) := by
        rw [Nat.pow_succ]
        omega
      rw [e]
      rfl
    · rintro σ H' ⟨rfl, v, rfl⟩
      exact ⟨_, rfl, k⟩
theorem is_odd (mask i : Nat) : decide (V.int (((mask / 2 ^ i : Nat) : Int) % 2) = V.int 1) = Kh432.isMember mask i := by
  unfold Kh432.isMember
  rw [Bool.eq_iff_iff, decide_eq_true_eq, beq_iff_eq]
  constructor
  · intro h
    have e : ((mask / 2 ^ i : Nat) : Int) % 2 = 1 := by injection h
    omega
  · intro h
    congr 1
    omega
theorem ok_mem {f : Addr} {fd : FuncData} (F : Fun K "members" "members" sMem f fd) (T : Txt K mg C CM) : FnOk P w K mg base CX0 1 f fd ["mask", "many"] spMem := by
  refine F.ok scMem (fun vs H Q E h => ?_) (fun cdv A outer s H vs Q E hr h => ?_)
  · obtain ⟨a, n, rfl, _⟩ := h
    rfl
  · obtain ⟨mask, n, rfl, hn, k⟩ := h
    refine ⟨_, pss_cons (ps_set (i := 2) scMem.nd rfl (.inl rfl) (pe_lst pa_nil))
      (pss_cons (ps_for PassesOwn.never rfl (pi_range1 (by rfl) T.range (pa_cons (pv 1) pa_nil)) (pg_name (i := 3) scMem.nd rfl (.inl rfl))
        (pss_cons (ps_if (pt_cmpR op_eq (pe_op op_mod (pv 0) pe_int) pe_int (nomark _))
          (pss_one (ps_expr (pe_bm PySem.F.plainAttrs_list PySem.F.slot_list_append PySem.F.type_list_append mt_append (pv 2) (pa_cons (pv 3) pa_nil)))) pss_nil)
        (pss_one (ps_set (i := 0) scMem.nd rfl (.inl rfl) (pe_op op_fdiv (pv 0) pe_int)))))
      (pss_one (ps_ret (pv 2)))), ?_⟩
    refine ⟨Nat.zero_le _, fun r hr' => ?_⟩
    refine ⟨_, rfl, _, rfl, by omega, by omega, for_range (n := n) (fun i σ H' => Same H H' ∧ H' r = some (.lst ((mem mask i).map natV)) ∧ ∃ v, σ = [some (natV (mask / 2 ^ i)), some (natV n), some (.ref r), v])
      ⟨same_new hr', upd_same, none, by rw [Nat.pow_zero, Nat.div_one]; rfl⟩ ?_ ?_⟩
    · rintro i σ H' hi ⟨sm, hl, v, rfl⟩
      have ez : (0 : Int) + (i : Int) = (i : Int) := Int.zero_add _
      have fin : ∀ H2 : Hp, Same H H2 → H2 r = some (.lst ((mem mask (i + 1)).map natV)) → ∃ v' : V, [some (natV (mask / 2 ^ i)), some (natV n), some (.ref r), some (V.int (0 + (i : Int)))][0]? = some (some v') ∧
          ∃ i' j', v' = V.int i' ∧ V.int 2 = V.int j' ∧ CDiv i' j' ∧
            (Same H H2 ∧ H2 r = some (.lst ((mem mask (i + 1)).map natV)) ∧ ∃ v, [some (natV (mask / 2 ^ i)), some (natV n), some (.ref r), some (V.int (0 + (i : Int)))].set 0 (some (V.int (i' / j'))) = [some (natV (mask / 2 ^ (i + 1))), some (natV n), some (.ref r), v]) := by
        intro H2 s2 l2
        refine ⟨_, rfl, _, _, rfl, rfl, ⟨by decide, by decide⟩, s2, l2, some (V.int (0 + (i : Int))), ?_⟩
        show [some (V.int (((mask / 2 ^ i : Nat) : Int) / 2)), _, _, _] = _
        have e : (((mask / 2 ^ i : Nat) : Int) / 2) = ((mask / 2 ^ (i + 1) : Nat) : Int) := by
          rw [← div_step]
          omega
        rw [e]
        rfl
      refine ⟨_, rfl, _, _, rfl, rfl, (by show (0 : Int) < 2; decide), rfl, _, rfl, ?_⟩
      refine if_of (is_odd mask i) (fun c => ?_) (fun c => ?_)
      · refine ⟨_, rfl, .inl ⟨rfl, _, SqL.of hl⟩, _, rfl, r, _, _, rfl, rfl, hl, ?_, ?_⟩
        · rw [List.length_map]
          have := mem_length mask i
          exact line' _ (by omega)
        · refine fin _ (same_upd sm hr') ?_
          rw [upd_same, mem_succ, c, if_pos rfl, List.map_append, ez]
          rfl
      · refine fin _ sm ?_
        rw [hl, mem_succ, c, if_neg Bool.false_ne_true, List.append_nil]
    · rintro σ H' ⟨sm, hl, v, rfl⟩
      exact ⟨_, rfl, k _ _ sm hr' hl⟩
end
end Lc
/-! part LcB -/
namespace Lc
open PySem PySem.Spec PyProof.Rows L2

/-! ### comprehensions over a list of lots -/
theorem LotsAt.snoc {C : Addr} {H : Hp} {as : List Addr} {ls : List Kh432.Lot} {a : Addr} {l : Kh432.Lot} (h : LotsAt C H as ls) (hl : LotAt C H a l) : LotsAt C H (as ++ [a]) (ls ++ [l]) := by
  refine ⟨by simp [h.len], fun i b k h1 h2 => ?_⟩
  by_cases hi : i < as.length
  · rw [List.getElem?_append_left hi] at h1
    rw [List.getElem?_append_left (by rw [← h.len]; exact hi)] at h2
    exact h.lot i b k h1 h2
  · have e : i = as.length := by
      have := (List.getElem?_eq_some_iff.mp h1).1
      simp at this
      omega
    subst e
    rw [List.getElem?_append_right (Nat.le_refl _)] at h1
    rw [h.len, List.getElem?_append_right (Nat.le_refl _)] at h2
    simp at h1 h2
    subst h1 h2
    exact hl
theorem LotsAt.nil {C : Addr} {H : Hp} : LotsAt C H [] [] := ⟨rfl, by simp⟩
theorem wipe_one (σ : L2.St) (i : Nat) (x : Option V) : wipe ((wipe σ [i]).set i x) [i] = wipe σ [i] := by
  show ((σ.set i none).set i x).set i none = σ.set i none
  rw [List.set_set, List.set_set]
theorem filter_more {α : Type} {l : List α} {i : Nat} {x : α} (p : α → Bool) (h : l[i]? = some x) : (l.take (i + 1)).filter p = (l.take i).filter p ++ (if p x = true then [x] else []) := by
  rw [take_more h, List.filter_append]
  congr 1
  by_cases c : p x = true
  · rw [if_pos c, List.filter_cons_of_pos c]
    rfl
  · rw [if_neg c, List.filter_cons_of_neg c]
    rfl
theorem filter_len {α : Type} (l : List α) (i : Nat) (p : α → Bool) : ((l.take i).filter p).length ≤ l.length := by
  have h1 := List.length_filter_le p (l.take i)
  have h2 : (l.take i).length ≤ l.length := by rw [List.length_take]; omega
  omega
theorem yes_of {σ : L2.St} {H : Hp} {A B : Hp → Prop} (h : A H) : tYes σ H (fun b H3 => if b = true then A H3 else B H3) := by
  show if true = true then A H else B H
  rw [if_pos rfl]
  exact h
section
variable {K : PySem.W.Frag} {C : Addr} {H : Hp} {a : Addr} {as : List Addr} {ls : List Kh432.Lot} {σ : L2.St} {i : Nat} {tt : TT} {te : TE} {Q : Addr → Hp → Prop} {p : Kh432.Lot → Bool}
/-- [f(lot) for lot in lots if p(lot)] -/
theorem lc_map {f : Kh432.Lot → V} (hS : SqL K H a (as.map V.ref)) (hL : LotsAt C H as ls) (hn : ls.length ≤ 1000)
    (ht : ∀ (H' : Hp) (b : Addr) (l : Kh432.Lot) (R : Bool → Hp → Prop), Same H H' → LotAt C H' b l → (∀ H'', Same H' H'' → R (p l) H'') → tt ((wipe σ [i]).set i (some (.ref b))) H' R)
    (he : ∀ (H' : Hp) (b : Addr) (l : Kh432.Lot) (R : V → Hp → Prop), Same H H' → LotAt C H' b l → (∀ H'', Same H' H'' → R (f l) H'') → te ((wipe σ [i]).set i (some (.ref b))) H' R)
    (k : ∀ (D : Addr) (H' : Hp), Same H H' → H D = none → H' D = some (.lst ((ls.filter p).map f)) → Q D H') :
    ∀ D, H D = none → ∃ W : Nat → Nat → Hp → Prop, (∃ m, W 0 m (upd H D (.lst []))) ∧ ∀ j m H', W j m H' →
      ((Itl K a).stop j H' ∧ Q D H') ∨ ((Itl K a).go j H' ∧ ∃ Nx : Hp → Prop, (∀ H2, Nx H2 → ∃ m', m' < m ∧ W (j + 1) m' H2) ∧ ∀ x H2, (Itl K a).yld j H' x H2 → gName i x (wipe σ [i]) H2 fun σ2 H3 => wipe σ2 [i] = wipe σ [i] ∧ tt σ2 H3 fun b H4 =>
        if b = true then te σ2 H4 fun y H5 => ∃ acc, H5 D = some (.lst acc) ∧ acc.length < sizeLine ∧ Nx (upd H5 D (.lst (acc ++ [y]))) else Nx H4) := by
  intro D hD
  refine lc_list (xs := as.map V.ref) (Qd := Q D) (fun j H' => Same H H' ∧ H' D = some (.lst (((ls.take j).filter p).map f))) ⟨same_new hD, upd_same⟩ (fun j H' _ h => h.1.seq hS) ?_ ?_
  · rintro j x H' hx ⟨sm, hl⟩
    obtain ⟨b, hb, rfl⟩ := mapRef hx
    obtain ⟨l, hlj, hlot⟩ := hL.get' hb
    refine ⟨wipe_one σ i _, ht H' b l _ sm (hlot.same sm) fun H2 s2 => ?_⟩
    have hl2 := s2 _ _ hl
    by_cases c : p l = true
    · rw [if_pos c]
      refine he H2 b l _ (sm.trans s2) (hlot.same (sm.trans s2)) fun H3 s3 => ?_
      refine ⟨_, s3 _ _ hl2, ?_, same_upd ((sm.trans s2).trans s3) hD, ?_⟩
      · rw [List.length_map]
        have := filter_len ls j p
        exact line' _ (by omega)
      · rw [upd_same, filter_more p hlj, if_pos c, List.map_append]
        rfl
    · rw [if_neg c]
      refine ⟨sm.trans s2, ?_⟩
      rw [hl2, filter_more p hlj, if_neg c, List.append_nil]
  · rintro H' ⟨sm, hl⟩
    rw [List.length_map, hL.len, List.take_length] at hl
    exact k D H' sm hD hl
/-- [lot for lot in lots if p(lot)] -/
theorem lc_keep (hS : SqL K H a (as.map V.ref)) (hL : LotsAt C H as ls) (hn : ls.length ≤ 1000)
    (ht : ∀ (H' : Hp) (b : Addr) (l : Kh432.Lot) (R : Bool → Hp → Prop), Same H H' → LotAt C H' b l → (∀ H'', Same H' H'' → R (p l) H'') → tt ((wipe σ [i]).set i (some (.ref b))) H' R)
    (he : ∀ (H' : Hp) (b : Addr) (R : V → Hp → Prop), Same H H' → R (.ref b) H' → te ((wipe σ [i]).set i (some (.ref b))) H' R)
    (k : ∀ (D : Addr) (bs : List Addr) (H' : Hp), Same H H' → H D = none → H' D = some (.lst (bs.map V.ref)) → LotsAt C H' bs (ls.filter p) → Q D H') :
    ∀ D, H D = none → ∃ W : Nat → Nat → Hp → Prop, (∃ m, W 0 m (upd H D (.lst []))) ∧ ∀ j m H', W j m H' →
      ((Itl K a).stop j H' ∧ Q D H') ∨ ((Itl K a).go j H' ∧ ∃ Nx : Hp → Prop, (∀ H2, Nx H2 → ∃ m', m' < m ∧ W (j + 1) m' H2) ∧ ∀ x H2, (Itl K a).yld j H' x H2 → gName i x (wipe σ [i]) H2 fun σ2 H3 => wipe σ2 [i] = wipe σ [i] ∧ tt σ2 H3 fun b H4 =>
        if b = true then te σ2 H4 fun y H5 => ∃ acc, H5 D = some (.lst acc) ∧ acc.length < sizeLine ∧ Nx (upd H5 D (.lst (acc ++ [y]))) else Nx H4) := by
  intro D hD
  refine lc_list (xs := as.map V.ref) (Qd := Q D) (fun j H' => Same H H' ∧ ∃ bs : List Addr, H' D = some (.lst (bs.map V.ref)) ∧ LotsAt C H' bs ((ls.take j).filter p)) ⟨same_new hD, [], upd_same, .nil⟩ (fun j H' _ h => h.1.seq hS) ?_ ?_
  · rintro j x H' hx ⟨sm, bs, hl, hbs⟩
    obtain ⟨b, hb, rfl⟩ := mapRef hx
    obtain ⟨l, hlj, hlot⟩ := hL.get' hb
    refine ⟨wipe_one σ i _, ht H' b l _ sm (hlot.same sm) fun H2 s2 => ?_⟩
    have hl2 := s2 _ _ hl
    by_cases c : p l = true
    · rw [if_pos c]
      refine he H2 b _ (sm.trans s2) ?_
      have sf := same_upd (o := .lst (bs.map V.ref ++ [V.ref b])) (sm.trans s2) hD
      refine ⟨_, hl2, ?_, sf, bs ++ [b], ?_, ?_⟩
      · rw [List.length_map, hbs.len]
        have := filter_len ls j p
        exact line' _ (by omega)
      · rw [upd_same, List.map_append]
        rfl
      · rw [filter_more p hlj, if_pos c]
        refine LotsAt.snoc ⟨hbs.len, fun n b' l' h1 h2 => ?_⟩ (hlot.same sf)
        obtain ⟨dx, e⟩ := hbs.lot n b' l' h1 h2
        have e2 := s2 _ _ e
        exact ⟨dx, by rw [upd_ne (ne_of e2 hl2 (by intro z; cases z))]; exact e2⟩
    · rw [if_neg c]
      refine ⟨sm.trans s2, bs, hl2, ?_⟩
      rw [filter_more p hlj, if_neg c, List.append_nil]
      exact hbs.same s2
  · rintro H' ⟨sm, bs, hl, hbs⟩
    rw [List.length_map, hL.len, List.take_length] at hbs
    exact k D bs H' sm hD hl hbs
end
end Lc
/-! part LcC -/
namespace Lc
open PySem PySem.Spec PyProof.Rows L2

abbrev sIn : Stmt := top 6
theorem scIn : FnScope ["market", "mask", "number"] ["market", "mask"] (defScope sIn) := ⟨rfl, rfl, rfl, by decide +kernel, rfl, by decide +kernel, by decide +kernel⟩
def spIn (C CM : Addr) : Sp := fun vs H Q _ => ∃ p m fp mask, vs = [.ref p, natV mask] ∧ Mkt C CM H p m fp ∧ m.lots.length ≤ 1000 ∧
  ∀ H' r bs, Same H H' → H r = none → H' r = some (.lst (bs.map V.ref)) → LotsAt C H' bs (lotsIn m mask) → Q (.ref r) H'
abbrev sOver : Stmt := top 8
theorem scOver : FnScope ["one", "other"] ["one", "other"] (defScope sOver) := ⟨rfl, rfl, rfl, by decide +kernel, rfl, by decide +kernel, by decide +kernel⟩
def overL (x y : Kh432.Lot) : Bool := decide (x.start < endL y) && decide (y.start < endL x)
def spOver (C : Addr) : Sp := fun vs H Q _ => ∃ a b x y, vs = [.ref a, .ref b] ∧ LotAt C H a x ∧ LotAt C H b y ∧ Q (.bl (overL x y)) H
abbrev sOn : Stmt := top 9
theorem scOn : FnScope ["lots", "second", "lot"] ["lots", "second"] (defScope sOn) := ⟨rfl, rfl, rfl, by decide +kernel, rfl, by decide +kernel, by decide +kernel⟩
def spOn (K : PySem.W.Frag) (C : Addr) : Sp := fun vs H Q _ => ∃ a as ls t, vs = [.ref a, natV t] ∧ SqL K H a (as.map V.ref) ∧ LotsAt C H as ls ∧ ls.length ≤ 1000 ∧ ∀ H', Same H H' → Q (natV (onSale ls t)) H'
/-- a number of the lots of a list -/
def spL1 (K : PySem.W.Frag) (C : Addr) (f : List Kh432.Lot → Nat) : Sp := fun vs H Q _ => ∃ a as ls, vs = [.ref a] ∧ SqL K H a (as.map V.ref) ∧ LotsAt C H as ls ∧ ls.length ≤ 1000 ∧ ∀ H', Same H H' → Q (natV (f ls)) H'
abbrev sNeed : Stmt := top 10
theorem scNeed : FnScope ["lots", "lot"] ["lots"] (defScope sNeed) := ⟨rfl, rfl, rfl, by decide +kernel, rfl, by decide +kernel, by decide +kernel⟩
abbrev sCost : Stmt := top 11
theorem scCost : FnScope ["lots", "lot"] ["lots"] (defScope sCost) := ⟨rfl, rfl, rfl, by decide +kernel, rfl, by decide +kernel, by decide +kernel⟩
abbrev sUnits : Stmt := top 12
theorem scUnits : FnScope ["lots", "lot"] ["lots"] (defScope sUnits) := ⟨rfl, rfl, rfl, by decide +kernel, rfl, by decide +kernel, by decide +kernel⟩
abbrev sLast : Stmt := top 14
theorem scLast : FnScope ["lots", "lot"] ["lots"] (defScope sLast) := ⟨rfl, rfl, rfl, by decide +kernel, rfl, by decide +kernel, by decide +kernel⟩

theorem sum_cast (ns : List Nat) : (ns.map fun n : Nat => (n : Int)).sum = ((ns.sum : Nat) : Int) := by
  induction ns with
  | nil => rfl
  | cons n r ih =>
    rw [List.map_cons, List.sum_cons, List.sum_cons, ih]
    omega
section
variable {P : Program} {w : World} {K : PySem.W.Frag} {mg : Str → Option Value} {base : Heap} {C CM : Addr}
theorem ok_in {f : Addr} {fd : FuncData} (F : Fun K "lots_in" "lots_in" sIn f fd) (T : Txt K mg C CM) (D : Def P w K mg base "members" 1 ["mask", "many"] spMem) : FnOk P w K mg base CX0 2 f fd ["market", "mask"] (spIn C CM) := by
  refine F.ok scIn (fun vs H Q E h => ?_) (fun cdv A outer s H vs Q E hr h => ?_)
  · obtain ⟨p, m, fp, mask, rfl, _⟩ := h
    rfl
  · obtain ⟨p, m, fp, mask, rfl, ⟨L, DD, B, as, rfl, M⟩, hn, k⟩ := h
    obtain ⟨dx, hp⟩ := M.ins
    refine ⟨_, pss_one (ps_ret (pe_lc (own := [("number", 2)]) (g := gName 2) (tt := tYes) (te := tOp (rIxL K) (tFld K (tVar 0) "lots") (tVar 2)) rfl scIn.nd
      (pi_list (pe_def D hr rfl (pa_cons (pv 1) (pa_cons (pe_callB call_len_seq (by rfl) T.len PySem.boot_len (pa_cons (pe_fld (pv 0) rfl) pa_nil)) pa_nil))))
      (blkOk_by (N := ["market", "mask", "number"]) (sc := defScope sIn) (by decide +kernel)) (fun _ _ _ _ _ => pg_name (i := 2) scIn.nd rfl (Or.inl rfl)) (fun _ _ _ _ _ => pts_nil)
      (fun _ _ _ _ _ => pe_ix ix_list (pe_fld (pv 0) rfl) (pv 2) (fun _ _ => rfl)))), ?_⟩
    refine ⟨_, rfl, _, rfl, p, CM, dx, _, _, rfl, hp, T.cm, T.mL, mF_lots _ _ _ _, _, _, rfl, .inl (SqL.of M.lst), mask, m.lots.length, ?_, hn, fun H1 r1 s1 n1 l1 => ?_⟩
    · rw [List.length_map, M.len]
      rfl
    refine ⟨r1, rfl, ⟨_, SqL.of l1⟩, fun D hD => ?_⟩
    have M1 := M.same s1
    refine lc_list (xs := (mem mask m.lots.length).map natV) (Qd := fun H' => Q (.ref D) H') (fun j H' => Same H1 H' ∧ ∃ bs : List Addr, H' D = some (.lst (bs.map V.ref)) ∧ LotsAt C H' bs (((mem mask m.lots.length).take j).map (Kh432.lotAt m)))
      ⟨same_new hD, [], upd_same, .nil⟩ (fun j H' _ h => (SqL.of (h.1 _ _ l1))) ?_ ?_
    · rintro j x H' hx ⟨sm, bs, hl, hbs⟩
      obtain ⟨n, hnj, rfl⟩ := mapNat hx
      have hlt : n < m.lots.length := mem_lt (List.mem_of_getElem? hnj)
      obtain ⟨b, hb, hlot⟩ := M1.lots.get (List.getElem?_eq_getElem hlt)
      have M2 := M1.same sm
      obtain ⟨dx2, hp2⟩ := M2.ins
      refine ⟨wipe_one _ 2 _, yes_of ?_⟩
      refine ⟨_, rfl, p, CM, dx2, _, _, rfl, hp2, T.cm, T.mL, mF_lots _ _ _ _, _, rfl, L, _, _, V.ref b, rfl, rfl, SqL.of M2.lst, atI_nat (by rw [List.getElem?_map, hb]; rfl), _, hl, ?_, ?_⟩
      · rw [List.length_map, hbs.len, List.length_map, List.length_take]
        have := mem_length mask m.lots.length
        exact line' _ (by omega)
      · have sf := same_upd (o := .lst (bs.map V.ref ++ [V.ref b])) sm hD
        refine ⟨sf, bs ++ [b], by rw [upd_same, List.map_append]; rfl, ?_⟩
        rw [take_more hnj, List.map_append]
        refine LotsAt.snoc ⟨hbs.len, fun i b' l' h1 h2 => ?_⟩ ?_
        · obtain ⟨dx, e⟩ := hbs.lot i b' l' h1 h2
          exact ⟨dx, by rw [upd_ne (ne_of e hl (by intro z; cases z))]; exact e⟩
        · rw [lotAt_get (List.getElem?_eq_getElem hlt)]
          exact hlot.same sf
    · rintro H' ⟨sm, bs, hl, hbs⟩
      rw [List.length_map, List.take_length] at hbs
      exact k H' D bs (s1.trans sm) (s1.free hD) hl hbs
theorem ok_over {f : Addr} {fd : FuncData} (F : Fun K "overlap" "overlap" sOver f fd) (T : Txt K mg C CM) (D : Def P w K mg base "end_of" 1 ["lot"] (spEnd C)) : FnOk P w K mg base CX0 2 f fd ["one", "other"] (spOver C) := by
  refine F.ok scOver (fun vs H Q E h => ?_) (fun cdv A outer s H vs Q E hr h => ?_)
  · obtain ⟨a, b, x, y, rfl, _⟩ := h
    rfl
  · obtain ⟨a, b, x, y, rfl, ⟨dx, ha⟩, ⟨dy, hb⟩, k⟩ := h
    refine ⟨_, pss_one (ps_ret (pe_and (pe_cmpR op_lt (pe_fld (pv 0) rfl) (pe_def D hr rfl (pa_cons (pv 1) pa_nil)) (nomark _)) (pe_one (pe_cmpR op_lt (pe_fld (pv 1) rfl) (pe_def D hr rfl (pa_cons (pv 0) pa_nil)) (nomark _))))), ?_⟩
    refine ⟨_, rfl, a, C, dx, _, _, rfl, ha, T.cl, T.aS, lF_start x, _, rfl, b, y, rfl, ⟨dy, hb⟩, _, _, rfl, rfl, _, rfl, ?_⟩
    unfold overL at k
    have e : ∀ i j : Nat, decide ((i : Int) < (j : Int)) = decide (i < j) := fun i j => by rw [decide_eq_decide]; omega
    refine if_of (e _ _) (fun c => ?_) (fun c => ?_)
    · rw [c, Bool.true_and] at k
      rw [← e] at k
      exact ⟨_, rfl, b, C, dy, _, _, rfl, hb, T.cl, T.aS, lF_start y, _, rfl, a, x, rfl, ⟨dx, ha⟩, _, _, rfl, rfl, k⟩
    · rw [c, Bool.false_and] at k
      exact k
theorem ok_on {f : Addr} {fd : FuncData} (F : Fun K "on_sale" "on_sale" sOn f fd) (T : Txt K mg C CM) (D : Def P w K mg base "end_of" 1 ["lot"] (spEnd C)) : FnOk P w K mg base CX0 2 f fd ["lots", "second"] (spOn K C) := by
  refine F.ok scOn (fun vs H Q E h => ?_) (fun cdv A outer s H vs Q E hr h => ?_)
  · obtain ⟨a, as, ls, t, rfl, _⟩ := h
    rfl
  · obtain ⟨a, as, ls, t, rfl, hS, hL, hn, k⟩ := h
    refine ⟨_, pss_one (ps_ret (pe_callB call_len_seq (by rfl) T.len PySem.boot_len (pa_cons (pe_lc (own := [("lot", 2)]) (g := gName 2) (tt := tTest (tChain (rI0 fun i j => .bl (decide (i ≤ j))) (rI0 fun i j => .bl (decide (i < j))) (tFld K (tVar 2) "start") (tVar 1) (tDef (spEnd C) (tCons (tVar 2) tNil)))) (te := tVar 2) rfl scOn.nd (pi_list (pv 0))
      (blkOk_by (N := ["lots", "second", "lot"]) (sc := defScope sOn) (by decide +kernel)) (fun _ _ _ _ _ => pg_name (i := 2) scOn.nd rfl (Or.inl rfl))
      (fun _ _ _ _ _ => pts_one (pt_chain op_le op_lt (pe_fld (pv 2) rfl) (pv 1) (pe_def D hr rfl (pa_cons (pv 2) pa_nil))))
      (fun _ _ _ _ _ => pv 2)) pa_nil))), ?_⟩
    refine ⟨_, rfl, a, rfl, ⟨_, hS⟩, lc_keep (i := 2) (p := fun l => decide (l.start ≤ t) && decide (t < endL l)) hS hL hn ?_ ?_ ?_⟩
    · intro H' b l R sm ⟨dx, hb⟩ q
      have e1 : decide (((l.start : Nat) : Int) ≤ ((t : Nat) : Int)) = decide (l.start ≤ t) := by rw [decide_eq_decide]; omega
      have e2 : decide (((t : Nat) : Int) < ((endL l : Nat) : Int)) = decide (t < endL l) := by rw [decide_eq_decide]; omega
      refine ⟨_, rfl, b, C, dx, _, _, rfl, hb, T.cl, T.aS, lF_start l, _, rfl, _, _, rfl, rfl, _, rfl, ?_⟩
      have q := q H' (Same.refl _)
      refine if_of e1 (fun c => ?_) (fun c => ?_)
      · simp only [c, Bool.true_and] at q
        refine ⟨_, rfl, b, l, rfl, ⟨dx, hb⟩, _, _, rfl, rfl, _, rfl, ?_⟩
        rw [e2]
        exact q
      · simp only [c, Bool.false_and] at q
        exact ⟨_, rfl, q⟩
    · intro H' b R sm q
      exact ⟨_, rfl, q⟩
    · intro D bs H' sm hD hl hbs
      refine ⟨_, _, rfl, .inl (SqL.of hl), ?_⟩
      have q := k H' sm
      rw [List.length_map, hbs.len]
      exact q
theorem ok_need {f : Addr} {fd : FuncData} (F : Fun K "buyers_needed" "buyers_needed" sNeed f fd) (T : Txt K mg C CM) (D : Def P w K mg base "on_sale" 2 ["lots", "second"] (spOn K C)) : FnOk P w K mg base CX0 3 f fd ["lots"] (spL1 K C need) := by
  refine F.ok scNeed (fun vs H Q E h => ?_) (fun cdv A outer s H vs Q E hr h => ?_)
  · obtain ⟨a, as, ls, rfl, _⟩ := h
    rfl
  · obtain ⟨a, as, ls, rfl, hS, hL, hn, k⟩ := h
    refine ⟨_, pss_one (ps_ret (pe_callBK (ks := ["default"]) (cr_maxD rfl hr) (by rfl) T.max PyProof.Rows.boot_max (pa_cons (pe_lc (own := [("lot", 1)]) (g := gName 1) (tt := tYes) (te := tDef (spOn K C) (tCons (tVar 0) (tCons (tFld K (tVar 1) "start") tNil))) rfl scNeed.nd (pi_list (pv 0))
      (blkOk_by (N := ["lots", "lot"]) (sc := defScope sNeed) (by decide +kernel)) (fun _ _ _ _ _ => pg_name (i := 1) scNeed.nd rfl (Or.inl rfl)) (fun _ _ _ _ _ => pts_nil)
      (fun _ _ _ _ _ => pe_def D hr rfl (pa_cons (pv 0) (pa_cons (pe_fld (pv 1) rfl) pa_nil)))) pa_nil) (pk_cons pe_int pk_nil))), ?_⟩
    refine ⟨_, rfl, a, rfl, ⟨_, hS⟩, lc_map (i := 1) (p := fun _ => true) (f := fun l => natV (onSale ls l.start)) hS hL hn ?_ ?_ ?_⟩
    · intro H' b l R sm hb q
      exact q H' (Same.refl _)
    · intro H' b l R sm ⟨dx, hb⟩ q
      exact ⟨_, rfl, _, rfl, b, C, dx, _, _, rfl, hb, T.cl, T.aS, lF_start l, a, as, ls, l.start, rfl, sm.seq hS, hL.same sm, hn, q⟩
    · intro D H' sm hD hl
      have e : (ls.filter fun _ => true) = ls := List.filter_eq_self.mpr fun _ _ => rfl
      rw [e] at hl
      refine ⟨D, ls.map (fun l : Kh432.Lot => onSale ls l.start), rfl, rfl, SqL.of ?_, k H' sm⟩
      rw [hl, List.map_map]
      rfl
theorem ok_last {f : Addr} {fd : FuncData} (F : Fun K "last_end" "last_end" sLast f fd) (T : Txt K mg C CM) (D : Def P w K mg base "end_of" 1 ["lot"] (spEnd C)) : FnOk P w K mg base CX0 2 f fd ["lots"] (spL1 K C lastEnd) := by
  refine F.ok scLast (fun vs H Q E h => ?_) (fun cdv A outer s H vs Q E hr h => ?_)
  · obtain ⟨a, as, ls, rfl, _⟩ := h
    rfl
  · obtain ⟨a, as, ls, rfl, hS, hL, hn, k⟩ := h
    refine ⟨_, pss_one (ps_ret (pe_callBK (ks := ["default"]) (cr_maxD rfl hr) (by rfl) T.max PyProof.Rows.boot_max (pa_cons (pe_lc (own := [("lot", 1)]) (g := gName 1) (tt := tYes) (te := tDef (spEnd C) (tCons (tVar 1) tNil)) rfl scLast.nd (pi_list (pv 0))
      (blkOk_by (N := ["lots", "lot"]) (sc := defScope sLast) (by decide +kernel)) (fun _ _ _ _ _ => pg_name (i := 1) scLast.nd rfl (Or.inl rfl)) (fun _ _ _ _ _ => pts_nil)
      (fun _ _ _ _ _ => pe_def D hr rfl (pa_cons (pv 1) pa_nil))) pa_nil) (pk_cons pe_int pk_nil))), ?_⟩
    refine ⟨_, rfl, a, rfl, ⟨_, hS⟩, lc_map (i := 1) (p := fun _ => true) (f := fun l => natV (endL l)) hS hL hn ?_ ?_ ?_⟩
    · intro H' b l R sm hb q
      exact q H' (Same.refl _)
    · intro H' b l R sm hb q
      exact ⟨_, rfl, b, l, rfl, hb, q H' (Same.refl _)⟩
    · intro D H' sm hD hl
      have e : (ls.filter fun _ => true) = ls := List.filter_eq_self.mpr fun _ _ => rfl
      rw [e] at hl
      refine ⟨D, ls.map endL, rfl, rfl, SqL.of ?_, k H' sm⟩
      rw [hl, List.map_map]
      rfl
theorem ok_cost {f : Addr} {fd : FuncData} (F : Fun K "cost_of" "cost_of" sCost f fd) (T : Txt K mg C CM) : FnOk P w K mg base CX0 1 f fd ["lots"] (spL1 K C costOf) := by
  refine F.ok scCost (fun vs H Q E h => ?_) (fun cdv A outer s H vs Q E hr h => ?_)
  · obtain ⟨a, as, ls, rfl, _⟩ := h
    rfl
  · obtain ⟨a, as, ls, rfl, hS, hL, hn, k⟩ := h
    refine ⟨_, pss_one (ps_ret (pe_callB (cr_sum rfl) (by rfl) T.sum PyProof.Rows.boot_sum (pa_cons (pe_lc (own := [("lot", 1)]) (g := gName 1) (tt := tYes) (te := tFld K (tVar 1) "cost") rfl scCost.nd (pi_list (pv 0))
      (blkOk_by (N := ["lots", "lot"]) (sc := defScope sCost) (by decide +kernel)) (fun _ _ _ _ _ => pg_name (i := 1) scCost.nd rfl (Or.inl rfl)) (fun _ _ _ _ _ => pts_nil)
      (fun _ _ _ _ _ => pe_fld (pv 1) rfl)) pa_nil))), ?_⟩
    refine ⟨_, rfl, a, rfl, ⟨_, hS⟩, lc_map (i := 1) (p := fun _ => true) (f := fun l => natV l.cost) hS hL hn ?_ ?_ ?_⟩
    · intro H' b l R sm hb q
      exact q H' (Same.refl _)
    · intro H' b l R sm ⟨dx, hb⟩ q
      exact ⟨_, rfl, b, C, dx, _, _, rfl, hb, T.cl, T.aC, lF_cost l, q H' (Same.refl _)⟩
    · intro D H' sm hD hl
      have e : (ls.filter fun _ => true) = ls := List.filter_eq_self.mpr fun _ _ => rfl
      rw [e] at hl
      refine ⟨D, (ls.map (·.cost)).map fun n : Nat => (n : Int), rfl, SqL.of ?_, ?_⟩
      · rw [hl, List.map_map, List.map_map]
        rfl
      · rw [sum_cast]
        exact k H' sm
theorem ok_units {f : Addr} {fd : FuncData} (F : Fun K "units_of" "units_of" sUnits f fd) (T : Txt K mg C CM) : FnOk P w K mg base CX0 1 f fd ["lots"] (spL1 K C unitsOf) := by
  refine F.ok scUnits (fun vs H Q E h => ?_) (fun cdv A outer s H vs Q E hr h => ?_)
  · obtain ⟨a, as, ls, rfl, _⟩ := h
    rfl
  · obtain ⟨a, as, ls, rfl, hS, hL, hn, k⟩ := h
    refine ⟨_, pss_one (ps_ret (pe_callB (cr_sum rfl) (by rfl) T.sum PyProof.Rows.boot_sum (pa_cons (pe_lc (own := [("lot", 1)]) (g := gName 1) (tt := tYes) (te := tFld K (tVar 1) "units") rfl scUnits.nd (pi_list (pv 0))
      (blkOk_by (N := ["lots", "lot"]) (sc := defScope sUnits) (by decide +kernel)) (fun _ _ _ _ _ => pg_name (i := 1) scUnits.nd rfl (Or.inl rfl)) (fun _ _ _ _ _ => pts_nil)
      (fun _ _ _ _ _ => pe_fld (pv 1) rfl)) pa_nil))), ?_⟩
    refine ⟨_, rfl, a, rfl, ⟨_, hS⟩, lc_map (i := 1) (p := fun _ => true) (f := fun l => natV l.units) hS hL hn ?_ ?_ ?_⟩
    · intro H' b l R sm hb q
      exact q H' (Same.refl _)
    · intro H' b l R sm ⟨dx, hb⟩ q
      exact ⟨_, rfl, b, C, dx, _, _, rfl, hb, T.cl, T.aU, lF_units l, q H' (Same.refl _)⟩
    · intro D H' sm hD hl
      have e : (ls.filter fun _ => true) = ls := List.filter_eq_self.mpr fun _ _ => rfl
      rw [e] at hl
      refine ⟨D, (ls.map (·.units)).map fun n : Nat => (n : Int), rfl, SqL.of ?_, ?_⟩
      · rw [hl, List.map_map, List.map_map]
        rfl
      · rw [sum_cast]
        exact k H' sm
end
end Lc
/-! part LcD -/
namespace Lc
open PySem PySem.Spec PyProof.Rows L2

/-! ### a comprehension over two lists of numbers -/
theorem wipe_two (σ : L2.St) {i j : Nat} (hij : i ≠ j) (x y : Option V) : wipe (((wipe σ [i, j]).set i x).set j y) [i, j] = wipe σ [i, j] := by
  show (((((σ.set j none).set i none).set i x).set j y).set j none).set i none = (σ.set j none).set i none
  rw [List.set_set, List.set_set, List.set_comm _ _ hij, List.set_set, List.set_comm _ _ (Ne.symm hij)]
  try rw [List.set_comm _ _ hij, List.set_set]
theorem zip_more {xs ys : List Nat} {i x y : Nat} (f : Nat → Nat → V) (hx : xs[i]? = some x) (hy : ys[i]? = some y) :
    (((xs.zip ys).take (i + 1)).map fun p => f p.1 p.2) = (((xs.zip ys).take i).map fun p => f p.1 p.2) ++ [f x y] := by
  have h : (xs.zip ys)[i]? = some (x, y) := by
    rw [List.getElem?_zip_eq_some]
    exact ⟨hx, hy⟩
  rw [take_more h, List.map_append]
  rfl
section
variable {K : PySem.W.Frag} {H : Hp} {a b : Addr} {xs ys : List Nat} {σ : L2.St} {i j : Nat} {te : TE} {Q : Addr → Hp → Prop}
theorem lc_zip {f : Nat → Nat → V} (hA : SqL K H a (xs.map natV)) (hB : SqL K H b (ys.map natV)) (hn : xs.length ≤ 1000) (hij : i ≠ j)
    (he : ∀ (H' : Hp) (x y : Nat) (R : V → Hp → Prop), Same H H' → (∀ H'', Same H' H'' → R (f x y) H'') → te (((wipe σ [i, j]).set i (some (natV x))).set j (some (natV y))) H' R)
    (k : ∀ (D : Addr) (H' : Hp), Same H H' → H D = none → H' D = some (.lst ((xs.zip ys).map fun p => f p.1 p.2)) → Q D H') :
    ∀ D, H D = none → ∃ W : Nat → Nat → Hp → Prop, (∃ m, W 0 m (upd H D (.lst []))) ∧ ∀ n m H', W n m H' →
      ((Itz K a b).stop n H' ∧ Q D H') ∨ ((Itz K a b).go n H' ∧ ∃ Nx : Hp → Prop, (∀ H2, Nx H2 → ∃ m', m' < m ∧ W (n + 1) m' H2) ∧ ∀ x H2, (Itz K a b).yld n H' x H2 → gTup K 2 (gCons (gName i) (gCons (gName j) gNil)) x (wipe σ [i, j]) H2 fun σ2 H3 => wipe σ2 [i, j] = wipe σ [i, j] ∧ tYes σ2 H3 fun b H4 =>
        if b = true then te σ2 H4 fun y H5 => ∃ acc, H5 D = some (.lst acc) ∧ acc.length < sizeLine ∧ Nx (upd H5 D (.lst (acc ++ [y]))) else Nx H4) := by
  intro D hD
  have hz : min xs.length ys.length = (xs.zip ys).length := by rw [List.length_zip]
  refine lc_it (walk_zip (K := K) (a := a) (b := b) (xs := xs.map natV) (ys := ys.map natV) (n := min xs.length ys.length) (by rw [List.length_map, List.length_map])) (Qd := Q D)
    (fun n H' => Same H H' ∧ H' D = some (.lst (((xs.zip ys).take n).map fun p => f p.1 p.2))) ⟨same_new hD, upd_same⟩ (fun n H' _ h => ⟨h.1.seq hA, h.1.seq hB⟩) ?_ ?_
  · rintro n v H' H2 hlt ⟨sm, hl⟩ ⟨TT, x', y', rfl, hT, rfl, hx, hy⟩
    obtain ⟨x, hx1, rfl⟩ := mapNat hx
    obtain ⟨y, hy1, rfl⟩ := mapNat hy
    have hDT : D ≠ TT := ne_of_none hl hT
    have sT := same_upd (o := .tup [natV x, natV y]) sm (sm.free hT)
    refine ⟨TT, _, rfl, SqT.of upd_same, rfl, _, _, rfl, _, _, rfl, rfl, wipe_two σ hij _ _, yes_of ?_⟩
    refine he _ x y _ sT fun H3 s3 => ?_
    have hl3 : H3 D = some (.lst (((xs.zip ys).take n).map fun p => f p.1 p.2)) := s3 _ _ (by rw [upd_ne hDT]; exact hl)
    refine ⟨_, hl3, ?_, same_upd (sT.trans s3) hD, ?_⟩
    · rw [List.length_map, List.length_take, List.length_zip]
      exact line' _ (by omega)
    · rw [upd_same, zip_more f hx1 hy1]
  · rintro H' ⟨sm, hl⟩
    rw [hz, List.take_length] at hl
    exact k D H' sm hD hl
end

def retLc : List Stmt → Scope
  | [.Return (some (.ListComp _ _ sc _)) _] => sc
  | _ => { kind := .function, names := [], isGenerator := false, isCoroutine := false }
abbrev sBy : Stmt := top 13
theorem scBy : FnScope ["lots", "kind", "lot"] ["lots"] (defScope sBy) := ⟨rfl, rfl, rfl, by decide +kernel, rfl, by decide +kernel, by decide +kernel⟩
def spBy (K : PySem.W.Frag) (C : Addr) : Sp := fun vs H Q _ => ∃ a as ls, vs = [.ref a] ∧ SqL K H a (as.map V.ref) ∧ LotsAt C H as ls ∧ ls.length ≤ 1000 ∧
  ∀ H' r, Same H H' → H r = none → H' r = some (.lst ((byKind ls).map natV)) → Q (.ref r) H'
abbrev sCov : Stmt := top 15
theorem scCov : FnScope ["lots", "demand", "units", "wanted"] ["lots", "demand"] (defScope sCov) := ⟨rfl, rfl, rfl, by decide +kernel, rfl, by decide +kernel, by decide +kernel⟩
def spCov (K : PySem.W.Frag) (C : Addr) : Sp := fun vs H Q _ => ∃ a as ls d dem, vs = [.ref a, .ref d] ∧ SqL K H a (as.map V.ref) ∧ LotsAt C H as ls ∧ ls.length ≤ 1000 ∧ SqL K H d (dem.map natV) ∧
  ∀ H', Same H H' → Q (.bl (coversL ls dem)) H'
abbrev sShort : Stmt := top 16
theorem scShort : FnScope ["lots", "demand", "units", "wanted"] ["lots", "demand"] (defScope sShort) := ⟨rfl, rfl, rfl, by decide +kernel, rfl, by decide +kernel, by decide +kernel⟩
def spShort (K : PySem.W.Frag) (C : Addr) : Sp := fun vs H Q _ => ∃ a as ls d dem, vs = [.ref a, .ref d] ∧ SqL K H a (as.map V.ref) ∧ LotsAt C H as ls ∧ ls.length ≤ 1000 ∧ SqL K H d (dem.map natV) ∧
  ∀ H' r, Same H H' → H r = none → H' r = some (.lst ((shortL ls dem).map natV)) → Q (.ref r) H'
theorem byKind_len (ls : List Kh432.Lot) : (byKind ls).length = 3 := by
  unfold byKind
  rw [List.length_map, List.length_range]
section
variable {P : Program} {w : World} {K : PySem.W.Frag} {mg : Str → Option Value} {base : Heap} {C CM : Addr}
theorem ok_by {f : Addr} {fd : FuncData} (F : Fun K "units_by_kind" "units_by_kind" sBy f fd) (T : Txt K mg C CM) (D : Def P w K mg base "units_of" 1 ["lots"] (spL1 K C unitsOf)) : FnOk P w K mg base CX0 2 f fd ["lots"] (spBy K C) := by
  refine F.ok scBy (fun vs H Q E h => ?_) (fun cdv A outer s H vs Q E hr h => ?_)
  · obtain ⟨a, as, ls, rfl, _⟩ := h
    rfl
  · obtain ⟨a, as, ls, rfl, hS, hL, hn, k⟩ := h
    refine ⟨_, pss_one (ps_ret (pe_lc (own := [("kind", 1)]) (g := gName 1) (tt := tYes)
      (te := tDef (spL1 K C unitsOf) (tCons (tLc (iList K (tVar 0)) (gName 2) (tTest (tOp rEq (tFld K (tVar 2) "kind") (tVar 1))) (tVar 2) [2]) tNil)) rfl scBy.nd
      (pi_range1 (by rfl) T.range (pa_cons (pe_const T.kinds rfl) pa_nil))
      (blkOk_by (N := ["lots", "kind", "lot"]) (sc := defScope sBy) (by decide +kernel)) (fun _ _ _ _ _ => pg_name (i := 1) scBy.nd rfl (Or.inr rfl)) (fun _ _ _ _ _ => pts_nil)
      (fun _ _ _ _ _ => pe_def D hr rfl (pa_cons (pe_lc (own := [("lot", 2)]) (g := gName 2) (tt := tTest (tOp rEq (tFld K (tVar 2) "kind") (tVar 1))) (te := tVar 2) rfl scBy.nd (pi_list (pv 0))
        (blkOk_by (N := ["lots", "kind", "lot"]) (sc := relS (retLc (defBody sBy)) (defScope sBy)) (by decide +kernel)) (fun _ _ _ _ _ => pg_name (i := 2) scBy.nd rfl (Or.inl rfl))
        (fun _ _ _ _ _ => pts_one (pt_cmpR op_eq (pe_fld (pv 2) rfl) (pv 1) (nomark _))) (fun _ _ _ _ _ => pv 2)) pa_nil)))), ?_⟩
    refine ⟨3, rfl, by decide, by decide, fun D hD => ?_⟩
    refine lc_range (n := 3) (Qd := fun H' => Q (.ref D) H') (fun j H' => Same H H' ∧ H' D = some (.lst ((((List.range 3).take j).map fun k => unitsOf (ofKind ls k)).map natV))) ⟨same_new hD, upd_same⟩ ?_ ?_
    · rintro j H' hj ⟨sm, hl⟩
      refine ⟨wipe_one _ 1 _, yes_of ?_⟩
      refine ⟨_, rfl, a, rfl, ⟨_, sm.seq hS⟩, lc_keep (i := 2) (p := fun l => l.kind == j) (sm.seq hS) (hL.same sm) hn ?_ ?_ ?_⟩
      · intro H2 b l R s2 ⟨dx, hb⟩ q
        have e : decide (natV l.kind = V.int (0 + (j : Int))) = (l.kind == j) := by
          rw [Bool.eq_iff_iff, decide_eq_true_eq, beq_iff_eq]
          unfold natV
          constructor
          · intro h
            injection h with h
            omega
          · intro h
            subst h
            rw [Int.zero_add]
        refine ⟨_, rfl, b, C, dx, _, _, rfl, hb, T.cl, T.aK, lF_kind l, _, rfl, rfl, _, rfl, ?_⟩
        rw [e]
        exact q H2 (Same.refl _)
      · intro H2 b R s2 q
        exact ⟨_, rfl, q⟩
      · intro D2 bs H2 s2 hD2 hl2 hbs
        have hfl : (ls.filter fun l => l.kind == j).length ≤ 1000 := Nat.le_trans (List.length_filter_le _ _) hn
        refine ⟨D2, bs, ls.filter fun l => l.kind == j, rfl, SqL.of hl2, hbs, hfl, fun H3 s3 => ?_⟩
        have hr3 : (List.range 3)[j]? = some j := by rw [List.getElem?_range hj]
        refine ⟨_, s3 _ _ (s2 _ _ hl), ?_, same_upd ((sm.trans s2).trans s3) hD, ?_⟩
        · rw [List.length_map, List.length_map, List.length_take]
          exact line' _ (by omega)
        · rw [upd_same, take_more hr3, List.map_append, List.map_append]
          rfl
    · rintro H' ⟨sm, hl⟩
      exact k H' D sm hD hl
theorem ok_cov {f : Addr} {fd : FuncData} (F : Fun K "covers" "covers" sCov f fd) (T : Txt K mg C CM) (D : Def P w K mg base "units_by_kind" 2 ["lots"] (spBy K C)) : FnOk P w K mg base CX0 3 f fd ["lots", "demand"] (spCov K C) := by
  refine F.ok scCov (fun vs H Q E h => ?_) (fun cdv A outer s H vs Q E hr h => ?_)
  · obtain ⟨a, as, ls, d, dem, rfl, _⟩ := h
    rfl
  · obtain ⟨a, as, ls, d, dem, rfl, hS, hL, hn, hd, k⟩ := h
    refine ⟨_, pss_one (ps_ret (pe_callB (cr_all rfl) (by rfl) T.all PyProof.Rows.boot_all (pa_cons (pe_lc (own := [("units", 2), ("wanted", 3)]) (g := gTup K 2 (gCons (gName 2) (gCons (gName 3) gNil))) (tt := tYes)
      (te := tOp (rI0 fun i j => .bl (decide (j ≤ i))) (tVar 2) (tVar 3)) rfl scCov.nd
      (pi_zip (by rfl) T.zip (pa_cons (pe_def D hr rfl (pa_cons (pv 0) pa_nil)) (pa_cons (pv 1) pa_nil)))
      (blkOk_by (N := ["lots", "demand", "units", "wanted"]) (sc := defScope sCov) (by decide +kernel))
      (fun _ _ _ _ _ => pg_tup rfl (pgs_cons (pg_name (i := 2) scCov.nd rfl (.inl rfl)) (pgs_cons (pg_name (i := 3) scCov.nd rfl (.inl rfl)) pgs_nil))) (fun _ _ _ _ _ => pts_nil)
      (fun _ _ _ _ _ => pe_cmpR op_ge (pv 2) (pv 3) (nomark _))) pa_nil))), ?_⟩
    refine ⟨_, rfl, a, as, ls, rfl, hS, hL, hn, fun H1 r1 s1 n1 l1 => ⟨_, rfl, r1, d, _, _, rfl, SqL.of l1, s1.seq hd, lc_zip (i := 2) (j := 3) (f := fun x y => .bl (decide (y ≤ x))) (SqL.of l1) (s1.seq hd) (by rw [byKind_len]; decide) (by decide) ?_ ?_⟩⟩
    · intro H2 x y R s2 q
      have e : decide ((y : Int) ≤ (x : Int)) = decide (y ≤ x) := by rw [decide_eq_decide]; omega
      have q := q H2 (Same.refl _)
      simp only [← e] at q
      exact ⟨_, rfl, _, rfl, _, _, rfl, rfl, q⟩
    · intro D2 H2 s2 hD2 hl
      refine ⟨D2, ((byKind ls).zip dem).map fun p => decide (p.2 ≤ p.1), rfl, SqL.of ?_, ?_⟩
      · rw [hl, List.map_map]
        rfl
      · have q := k H2 (s1.trans s2)
        unfold coversL at q
        rw [List.all_map]
        exact q
theorem ok_short {f : Addr} {fd : FuncData} (F : Fun K "shortfall" "shortfall" sShort f fd) (T : Txt K mg C CM) (D : Def P w K mg base "units_by_kind" 2 ["lots"] (spBy K C)) : FnOk P w K mg base CX0 3 f fd ["lots", "demand"] (spShort K C) := by
  refine F.ok scShort (fun vs H Q E h => ?_) (fun cdv A outer s H vs Q E hr h => ?_)
  · obtain ⟨a, as, ls, d, dem, rfl, _⟩ := h
    rfl
  · obtain ⟨a, as, ls, d, dem, rfl, hS, hL, hn, hd, k⟩ := h
    refine ⟨_, pss_one (ps_ret (pe_lc (own := [("units", 2), ("wanted", 3)]) (g := gTup K 2 (gCons (gName 2) (gCons (gName 3) gNil))) (tt := tYes)
      (te := tCB (fun xs H Q => ∃ i j, xs = [.int i, .int j] ∧ Q (.int (if j > i then j else i)) H) (tCons (tC (.int 0)) (tCons (tOp (rI0 fun i j => .int (i - j)) (tVar 3) (tVar 2)) tNil))) rfl scShort.nd
      (pi_zip (by rfl) T.zip (pa_cons (pe_def D hr rfl (pa_cons (pv 0) pa_nil)) (pa_cons (pv 1) pa_nil)))
      (blkOk_by (N := ["lots", "demand", "units", "wanted"]) (sc := defScope sShort) (by decide +kernel))
      (fun _ _ _ _ _ => pg_tup rfl (pgs_cons (pg_name (i := 2) scShort.nd rfl (.inl rfl)) (pgs_cons (pg_name (i := 3) scShort.nd rfl (.inl rfl)) pgs_nil))) (fun _ _ _ _ _ => pts_nil)
      (fun _ _ _ _ _ => pe_callB (call_max2 rfl) (by rfl) T.max PyProof.Rows.boot_max (pa_cons pe_int (pa_cons (pe_op op_sub (pv 3) (pv 2)) pa_nil))))), ?_⟩
    refine ⟨_, rfl, a, as, ls, rfl, hS, hL, hn, fun H1 r1 s1 n1 l1 => ⟨_, rfl, r1, d, _, _, rfl, SqL.of l1, s1.seq hd, lc_zip (i := 2) (j := 3) (f := fun x y => natV (y - x)) (SqL.of l1) (s1.seq hd) (by rw [byKind_len]; decide) (by decide) ?_ ?_⟩⟩
    · intro H2 x y R s2 q
      have e : (if (y : Int) - (x : Int) > 0 then (y : Int) - (x : Int) else 0) = ((y - x : Nat) : Int) := by
        split <;> omega
      have q := q H2 (Same.refl _)
      unfold natV at q
      rw [← e] at q
      exact ⟨_, rfl, _, rfl, _, _, rfl, rfl, _, _, rfl, q⟩
    · intro D2 H2 s2 hD2 hl
      refine k H2 D2 (s1.trans s2) (s1.free hD2) ?_
      rw [hl]
      unfold shortL
      rw [List.map_map]
      rfl
end
end Lc
/-! part LcE -/
namespace Lc
open PySem PySem.Spec PyProof.Rows L2

abbrev sMasks : Stmt := top 19
theorem scMasks : FnScope ["market"] ["market"] (defScope sMasks) := ⟨rfl, rfl, rfl, by decide +kernel, rfl, by decide +kernel, by decide +kernel⟩
def spMasks (C CM : Addr) : Sp := fun vs H Q _ => ∃ p m fp, vs = [.ref p] ∧ Mkt C CM H p m fp ∧ m.lots.length ≤ 7 ∧
  ∀ H' r, Same H H' → H r = none → H' r = some (.lst ((Kh432.allSets m).map natV)) → Q (.ref r) H'
abbrev sPlans : Stmt := top 20
theorem scPlans : FnScope ["market", "buyers", "demand", "found", "mask", "some"] ["market", "buyers", "demand"] (defScope sPlans) := ⟨rfl, rfl, rfl, by decide +kernel, rfl, by decide +kernel, by decide +kernel⟩
def spPlans (K : PySem.W.Frag) (C CM : Addr) : Sp := fun vs H Q _ => ∃ p m fp buyers d dem, vs = [.ref p, natV buyers, .ref d] ∧ Mkt C CM H p m fp ∧ m.lots.length ≤ 7 ∧ SqL K H d (dem.map natV) ∧
  ∀ H' r, Same H H' → H r = none → H' r = some (.lst ((plansL m buyers dem).map natV)) → Q (.ref r) H'
abbrev sCheapOf : Stmt := top 21
theorem scCheapOf : FnScope ["market", "masks", "best", "mask"] ["market", "masks"] (defScope sCheapOf) := ⟨rfl, rfl, rfl, by decide +kernel, rfl, by decide +kernel, by decide +kernel⟩
def costFn (m : Kh432.Market) (mask : Nat) : Nat := costOf (lotsIn m mask)
def spCheapOf (K : PySem.W.Frag) (C CM : Addr) : Sp := fun vs H Q _ => ∃ p m fp a masks, vs = [.ref p, .ref a] ∧ Mkt C CM H p m fp ∧ m.lots.length ≤ 7 ∧ SqL K H a (masks.map natV) ∧
  ∀ H', Same H H' → Q (.int (enc (Kh432.minimizing (costFn m) masks))) H'
abbrev sCheap : Stmt := top 22
theorem scCheap : FnScope ["market", "buyers"] ["market", "buyers"] (defScope sCheap) := ⟨rfl, rfl, rfl, by decide +kernel, rfl, by decide +kernel, by decide +kernel⟩
def spCheap (C CM : Addr) : Sp := fun vs H Q _ => ∃ p m fp buyers, vs = [.ref p, natV buyers] ∧ Mkt C CM H p m fp ∧ Good m ∧ ∀ H', Same H H' → Q (.int (enc (Kh432.cheapestPlan m buyers))) H'
abbrev sEarl : Stmt := top 23
theorem scEarl : FnScope ["market", "buyers", "best", "mask"] ["market", "buyers"] (defScope sEarl) := ⟨rfl, rfl, rfl, by decide +kernel, rfl, by decide +kernel, by decide +kernel⟩
def endFn (m : Kh432.Market) (mask : Nat) : Nat := lastEnd (lotsIn m mask)
def spEarl (C CM : Addr) : Sp := fun vs H Q _ => ∃ p m fp buyers, vs = [.ref p, natV buyers] ∧ Mkt C CM H p m fp ∧ Good m ∧ ∀ H', Same H H' → Q (.int (enc (Kh432.minimizing (endFn m) (plansL m buyers m.demand)))) H'
theorem allSets_len {m : Kh432.Market} (h : m.lots.length ≤ 7) : (Kh432.allSets m).length ≤ 128 := by
  unfold Kh432.allSets
  rw [List.length_range]
  exact Nat.pow_le_pow_right (by decide) h
theorem plans_len {m : Kh432.Market} (h : m.lots.length ≤ 7) (buyers : Nat) (dem : List Nat) : (plansL m buyers dem).length ≤ 128 :=
  Nat.le_trans (List.length_filter_le _ _) (allSets_len h)
theorem enc_neg (o : Option Nat) : decide (enc o < 0) = o.isNone := by
  cases o with
  | none => rfl
  | some b =>
    rw [Bool.eq_iff_iff, decide_eq_true_eq]
    show (b : Int) < 0 ↔ _
    simp
theorem dec_lt (i j : Nat) : decide ((i : Int) < (j : Int)) = decide (i < j) := by rw [decide_eq_decide]; omega
theorem dec_le (i j : Nat) : decide ((i : Int) ≤ (j : Int)) = decide (i ≤ j) := by rw [decide_eq_decide]; omega
theorem min_step (f : Nat → Nat) {l : List Nat} {i x : Nat} (h : l[i]? = some x) : Kh432.minimizing f (l.take (i + 1)) = (match Kh432.minimizing f (l.take i) with
    | none => some x
    | some b => if f x < f b then some x else some b) := by
  rw [take_more h]
  refine (min_more f _ x).trans ?_
  cases Kh432.minimizing f (l.take i) <;> rfl
theorem min_step1 (f : Nat → Nat) {l : List Nat} {i x : Nat} (h : l[i]? = some x) (e : Kh432.minimizing f (l.take i) = none) : Kh432.minimizing f (l.take (i + 1)) = some x := by
  rw [min_step f h, e]
theorem min_step2 (f : Nat → Nat) {l : List Nat} {i x b : Nat} (h : l[i]? = some x) (e : Kh432.minimizing f (l.take i) = some b) (c : f x < f b) : Kh432.minimizing f (l.take (i + 1)) = some x := by
  rw [min_step f h, e]
  exact if_pos c
theorem min_step3 (f : Nat → Nat) {l : List Nat} {i x b : Nat} (h : l[i]? = some x) (e : Kh432.minimizing f (l.take i) = some b) (c : ¬ f x < f b) : Kh432.minimizing f (l.take (i + 1)) = some b := by
  rw [min_step f h, e]
  exact if_neg c
section
variable {P : Program} {w : World} {K : PySem.W.Frag} {mg : Str → Option Value} {base : Heap} {C CM : Addr}
theorem ok_masks {f : Addr} {fd : FuncData} (F : Fun K "masks_of" "masks_of" sMasks f fd) (T : Txt K mg C CM) (D : Def P w K mg base "bit_of" 1 ["number"] spBit) : FnOk P w K mg base CX0 2 f fd ["market"] (spMasks C CM) := by
  refine F.ok scMasks (fun vs H Q E h => ?_) (fun cdv A outer s H vs Q E hr h => ?_)
  · obtain ⟨p, m, fp, rfl, _⟩ := h
    rfl
  · obtain ⟨p, m, fp, rfl, ⟨L, DD, B, as, rfl, M⟩, hn, k⟩ := h
    obtain ⟨dx, hp⟩ := M.ins
    refine ⟨_, pss_one (ps_ret (pe_listRg rfl (by rfl) T.list (prg_1 (by rfl) T.range (pe_def D hr rfl (pa_cons (pe_callB call_len_seq (by rfl) T.len PySem.boot_len (pa_cons (pe_fld (pv 0) rfl) pa_nil)) pa_nil))))), ?_⟩
    have hpos := Nat.two_pow_pos m.lots.length
    have hp2 : 2 ^ m.lots.length ≤ 128 := Nat.pow_le_pow_right (n := 2) (by decide) hn
    refine ⟨_, rfl, p, CM, dx, _, _, rfl, hp, T.cm, T.mL, mF_lots _ _ _ _, _, _, rfl, .inl (SqL.of M.lst), m.lots.length, ?_, by omega, _, rfl, RgOk.of_le (by decide) (by omega) (by decide) (by omega), fun r hr' => ?_⟩
    · rw [List.length_map, M.len]
      rfl
    · refine k _ r (same_new hr') hr' ?_
      rw [upd_same]
      congr 2
      unfold rgV Kh432.allSets
      have e : (((2 ^ m.lots.length : Nat) : Int) - 0).toNat = 2 ^ m.lots.length := by
        rw [Int.sub_zero]
        exact Int.toNat_natCast _
      rw [e]
      refine List.map_congr_left fun i _ => ?_
      show V.int (0 + (i : Int)) = natV i
      rw [Int.zero_add]
      rfl
theorem ok_plans {f : Addr} {fd : FuncData} (F : Fun K "plans" "plans" sPlans f fd) (T : Txt K mg C CM) (D1 : Def P w K mg base "masks_of" 2 ["market"] (spMasks C CM)) (D2 : Def P w K mg base "lots_in" 2 ["market", "mask"] (spIn C CM))
    (D3 : Def P w K mg base "covers" 3 ["lots", "demand"] (spCov K C)) (D4 : Def P w K mg base "buyers_needed" 3 ["lots"] (spL1 K C need)) : FnOk P w K mg base CX0 4 f fd ["market", "buyers", "demand"] (spPlans K C CM) := by
  refine F.ok scPlans (fun vs H Q E h => ?_) (fun cdv A outer s H vs Q E hr h => ?_)
  · obtain ⟨p, m, fp, buyers, d, dem, rfl, _⟩ := h
    rfl
  · obtain ⟨p, m, fp, buyers, d, dem, rfl, M, hn, hd, k⟩ := h
    have hr2 : Room 2 _ := hr.mono (by decide)
    refine ⟨_, pss_cons (ps_set (i := 3) scPlans.nd rfl (.inl rfl) (pe_lst pa_nil))
      (pss_cons (ps_for PassesOwn.never rfl (pi_list (pe_def D1 hr2 rfl (pa_cons (pv 0) pa_nil))) (pg_name (i := 4) scPlans.nd rfl (.inl rfl))
        (pss_cons (ps_set (i := 5) scPlans.nd rfl (.inl rfl) (pe_def D2 hr2 rfl (pa_cons (pv 0) (pa_cons (pv 4) pa_nil))))
        (pss_one (ps_if (PW.pt (pw_and (pt_val (pe_def D3 hr rfl (pa_cons (pv 5) (pa_cons (pv 2) pa_nil)))) (pw_and1 (pt_cmpR op_le (pe_def D4 hr rfl (pa_cons (pv 5) pa_nil)) (pv 1) (nomark _)))))
          (pss_one (ps_expr (pe_bm PySem.F.plainAttrs_list PySem.F.slot_list_append PySem.F.type_list_append mt_append (pv 3) (pa_cons (pv 4) pa_nil)))) pss_nil))))
      (pss_one (ps_ret (pv 3)))), ?_⟩
    refine ⟨Nat.zero_le _, fun F hF => ?_⟩
    have s0 := same_new (o := .lst []) hF
    refine ⟨_, rfl, p, m, fp, rfl, M.same s0, hn, fun H1 r1 s1 n1 l1 => ⟨r1, rfl, ⟨_, SqL.of l1⟩, ?_⟩⟩
    have hF1 : H1 F = some (.lst []) := s1 _ _ upd_same
    have s01 := s0.trans s1
    refine for_list (K := K) (a := r1) (xs := (Kh432.allSets m).map natV) (fun i σ H' => Same H H' ∧ H' r1 = some (.lst ((Kh432.allSets m).map natV)) ∧ H' F = some (.lst ((((Kh432.allSets m).take i).filter (isPlan m buyers dem)).map natV)) ∧
      ∃ v1 v2, σ = [some (.ref p), some (natV buyers), some (.ref d), some (.ref F), v1, v2]) ⟨s01, l1, hF1, none, none, rfl⟩ (fun i σ H' _ h => SqL.of h.2.1) ?_ ?_
    · rintro i x σ H' hx ⟨sm, hr1, hl, v1, v2, rfl⟩
      obtain ⟨mask, hm, rfl⟩ := mapNat hx
      refine ⟨_, rfl, _, rfl, p, m, fp, mask, rfl, M.same sm, by omega, fun H2 r2 bs s2 n2 l2 hbs => ?_⟩
      have hlen : (lotsIn m mask).length ≤ 1000 := Nat.le_trans (lotsIn_length m mask) (by omega)
      refine ⟨_, rfl, _, rfl, r2, bs, lotsIn m mask, d, dem, rfl, SqL.of l2, hbs, hlen, (sm.trans s2).seq hd, fun H3 s3 => ⟨_, rfl, ?_⟩⟩
      have fin : ∀ H4 : Hp, Same H3 H4 → Same H H4 ∧ H4 r1 = some (.lst ((Kh432.allSets m).map natV)) ∧ H4 F = some (.lst ((((Kh432.allSets m).take i).filter (isPlan m buyers dem)).map natV)) := fun H4 s4 =>
        ⟨((sm.trans s2).trans s3).trans s4, s4 _ _ (s3 _ _ (s2 _ _ hr1)), s4 _ _ (s3 _ _ (s2 _ _ hl))⟩
      have no : isPlan m buyers dem mask = false → ∀ H4 : Hp, Same H3 H4 → Same H H4 ∧ H4 r1 = some (.lst ((Kh432.allSets m).map natV)) ∧ H4 F = some (.lst ((((Kh432.allSets m).take (i + 1)).filter (isPlan m buyers dem)).map natV)) ∧
          ∃ v1 v2, [some (.ref p), some (natV buyers), some (.ref d), some (.ref F), some (natV mask), some (.ref r2)] = [some (.ref p), some (natV buyers), some (.ref d), some (.ref F), v1, v2] := fun c H4 s4 => by
        obtain ⟨f1, f2, f3⟩ := fin H4 s4
        refine ⟨f1, f2, ?_, _, _, rfl⟩
        rw [filter_more _ hm, c, if_neg Bool.false_ne_true, List.append_nil]
        exact f3
      refine if_of rfl (fun c1 => ?_) (fun c1 => ?_)
      · refine ⟨_, rfl, r2, bs, lotsIn m mask, rfl, SqL.of (s3 _ _ l2), hbs.same s3, hlen, fun H4 s4 => ⟨_, rfl, _, _, rfl, rfl, _, rfl, ?_⟩⟩
        refine if_of (dec_le _ _) (fun c2 => ?_) (fun c2 => ?_)
        · obtain ⟨f1, f2, f3⟩ := fin H4 s4
          have c : isPlan m buyers dem mask = true := by
            unfold isPlan
            rw [c1, c2]
            rfl
          have hne : r1 ≠ F := by
            intro e
            rw [e, hF1] at l1
            have z := congrArg List.length (HO.lst.inj (Option.some.inj l1))
            unfold Kh432.allSets at z
            rw [List.length_map, List.length_range] at z
            have := Nat.two_pow_pos m.lots.length
            exact absurd z.symm (by rw [List.length_nil]; omega)
          refine ⟨_, rfl, .inl ⟨rfl, _, SqL.of f3⟩, _, rfl, F, _, _, rfl, rfl, f3, ?_, same_upd f1 hF, ?_, ?_, _, _, rfl⟩
          · rw [List.length_map]
            have := filter_len (Kh432.allSets m) i (isPlan m buyers dem)
            have := allSets_len hn
            exact line' _ (by omega)
          · rw [upd_ne hne]
            exact f2
          · rw [upd_same, filter_more _ hm, c, if_pos rfl, List.map_append]
            rfl
        · refine no ?_ H4 s4
          unfold isPlan
          rw [c2, Bool.and_false]
      · refine no ?_ H3 (Same.refl _)
        unfold isPlan
        rw [c1, Bool.false_and]
    · rintro σ H' ⟨sm, _, hl, v1, v2, rfl⟩
      rw [List.length_map, List.take_length] at hl
      exact ⟨_, rfl, k H' F sm hF hl⟩
theorem ok_cheapOf {f : Addr} {fd : FuncData} (F : Fun K "cheapest_of" "cheapest_of" sCheapOf f fd) (T : Txt K mg C CM) (D2 : Def P w K mg base "lots_in" 2 ["market", "mask"] (spIn C CM)) (D4 : Def P w K mg base "cost_of" 1 ["lots"] (spL1 K C costOf)) :
    FnOk P w K mg base CX0 3 f fd ["market", "masks"] (spCheapOf K C CM) := by
  refine F.ok scCheapOf (fun vs H Q E h => ?_) (fun cdv A outer s H vs Q E hr h => ?_)
  · obtain ⟨p, m, fp, a, masks, rfl, _⟩ := h
    rfl
  · obtain ⟨p, m, fp, a, masks, rfl, M, hn, hS, k⟩ := h
    have hr1 : Room 1 _ := hr.mono (by decide)
    refine ⟨_, pss_cons (ps_set (i := 2) scCheapOf.nd rfl (.inl rfl) (pe_un un_neg pe_int))
      (pss_cons (ps_for PassesOwn.never rfl (pi_list (pv 1)) (pg_name (i := 3) scCheapOf.nd rfl (.inl rfl))
        (pss_one (ps_if (PW.pt (pw_or (pt_cmpR op_lt (pv 2) pe_int (nomark _)) (pw_or1 (pt_cmpR op_lt (pe_def D4 hr1 rfl (pa_cons (pe_def D2 hr rfl (pa_cons (pv 0) (pa_cons (pv 3) pa_nil))) pa_nil))
            (pe_def D4 hr1 rfl (pa_cons (pe_def D2 hr rfl (pa_cons (pv 0) (pa_cons (pv 2) pa_nil))) pa_nil)) (nomark _)))))
          (pss_one (ps_set (i := 2) scCheapOf.nd rfl (.inl rfl) (pv 3))) pss_nil)))
      (pss_one (ps_ret (pv 2)))), ?_⟩
    refine ⟨_, rfl, _, rfl, a, rfl, ⟨_, hS⟩, for_list (K := K) (a := a) (xs := masks.map natV) (fun i σ H' => Same H H' ∧ ∃ v, σ = [some (.ref p), some (.ref a), some (.int (enc (Kh432.minimizing (costFn m) (masks.take i)))), v])
      ⟨Same.refl _, none, rfl⟩ (fun i σ H' _ h => h.1.seq hS) ?_ ?_⟩
    · rintro i x σ H' hx ⟨sm, v, rfl⟩
      obtain ⟨mask, hm, rfl⟩ := mapNat hx
      have hl1 : ∀ mask, (lotsIn m mask).length ≤ 1000 := fun mask => Nat.le_trans (lotsIn_length m mask) (by omega)
      refine ⟨_, rfl, _, _, rfl, rfl, _, rfl, ?_⟩
      cases e : Kh432.minimizing (costFn m) (masks.take i) with
      | none =>
        refine if_of (enc_neg none) (fun _ => ?_) (fun c => nomatch c)
        refine ⟨_, rfl, sm, some (natV mask), ?_⟩
        rw [min_step1 _ hm e]
        rfl
      | some b =>
        refine if_of (enc_neg (some b)) (fun c => nomatch c) (fun _ => ?_)
        refine ⟨_, rfl, _, rfl, p, m, fp, mask, rfl, M.same sm, by omega, fun H2 r2 bs s2 n2 l2 hbs => ⟨r2, bs, lotsIn m mask, rfl, SqL.of l2, hbs, hl1 _, fun H3 s3 => ?_⟩⟩
        refine ⟨_, rfl, _, rfl, p, m, fp, b, rfl, M.same ((sm.trans s2).trans s3), by omega, fun H4 r4 bs4 s4 n4 l4 hbs4 => ⟨r4, bs4, lotsIn m b, rfl, SqL.of l4, hbs4, hl1 _, fun H5 s5 => ?_⟩⟩
        refine ⟨_, _, rfl, rfl, _, rfl, ?_⟩
        have s5' := ((((sm.trans s2).trans s3).trans s4).trans s5)
        refine if_of (dec_lt _ _) (fun c => ?_) (fun c => ?_)
        · refine ⟨_, rfl, s5', some (natV mask), ?_⟩
          rw [min_step2 _ hm e (of_decide_eq_true c)]
          rfl
        · refine ⟨s5', some (natV mask), ?_⟩
          rw [min_step3 _ hm e (of_decide_eq_false c)]
          rfl
    · rintro σ H' ⟨sm, v, rfl⟩
      refine ⟨_, rfl, ?_⟩
      rw [List.length_map, List.take_length]
      exact k H' sm
theorem ok_cheap {f : Addr} {fd : FuncData} (F : Fun K "cheapest" "cheapest" sCheap f fd) (T : Txt K mg C CM) (D1 : Def P w K mg base "cheapest_of" 3 ["market", "masks"] (spCheapOf K C CM)) (D2 : Def P w K mg base "plans" 4 ["market", "buyers", "demand"] (spPlans K C CM)) :
    FnOk P w K mg base CX0 5 f fd ["market", "buyers"] (spCheap C CM) := by
  refine F.ok scCheap (fun vs H Q E h => ?_) (fun cdv A outer s H vs Q E hr h => ?_)
  · obtain ⟨p, m, fp, buyers, rfl, _⟩ := h
    rfl
  · obtain ⟨p, m, fp, buyers, rfl, M, hg, k⟩ := h
    have hr3 : Room 3 _ := hr.mono (by decide)
    have M0 := M
    obtain ⟨L, DD, B, as, rfl, M⟩ := M
    obtain ⟨dx, hp⟩ := M.ins
    refine ⟨_, pss_one (ps_ret (pe_def D1 hr3 rfl (pa_cons (pv 0) (pa_cons (pe_def D2 hr rfl (pa_cons (pv 0) (pa_cons (pv 1) (pa_cons (pe_fld (pv 0) rfl) pa_nil)))) pa_nil)))), ?_⟩
    refine ⟨_, rfl, _, rfl, _, rfl, _, rfl, p, CM, dx, _, _, rfl, hp, T.cm, T.mD, mF_dem _ _ _ _, p, m, _, buyers, DD, m.demand, rfl, M0, hg.1, SqL.of M.dem, fun H1 r1 s1 n1 l1 => ?_⟩
    refine ⟨p, m, _, r1, _, rfl, M0.same s1, hg.1, SqL.of l1, fun H2 s2 => ?_⟩
    have e : Kh432.minimizing (costFn m) (plansL m buyers m.demand) = Kh432.cheapestPlan m buyers := cheapest_is hg.2.1 buyers
    rw [e]
    exact k H2 (s1.trans s2)
theorem ok_earl {f : Addr} {fd : FuncData} (F : Fun K "earliest" "earliest" sEarl f fd) (T : Txt K mg C CM) (D1 : Def P w K mg base "plans" 4 ["market", "buyers", "demand"] (spPlans K C CM)) (D2 : Def P w K mg base "lots_in" 2 ["market", "mask"] (spIn C CM))
    (D4 : Def P w K mg base "last_end" 2 ["lots"] (spL1 K C lastEnd)) : FnOk P w K mg base CX0 5 f fd ["market", "buyers"] (spEarl C CM) := by
  refine F.ok scEarl (fun vs H Q E h => ?_) (fun cdv A outer s H vs Q E hr h => ?_)
  · obtain ⟨p, m, fp, buyers, rfl, _⟩ := h
    rfl
  · obtain ⟨p, m, fp, buyers, rfl, M, hg, k⟩ := h
    have hr2 : Room 2 _ := hr.mono (by decide)
    have hn := hg.1
    have M0 := M
    obtain ⟨L, DD, B, as, rfl, M1⟩ := M
    obtain ⟨dx, hp⟩ := M1.ins
    refine ⟨_, pss_cons (ps_set (i := 2) scEarl.nd rfl (.inl rfl) (pe_un un_neg pe_int))
      (pss_cons (ps_for PassesOwn.never rfl (pi_list (pe_def D1 hr rfl (pa_cons (pv 0) (pa_cons (pv 1) (pa_cons (pe_fld (pv 0) rfl) pa_nil))))) (pg_name (i := 3) scEarl.nd rfl (.inl rfl))
        (pss_one (ps_if (PW.pt (pw_or (pt_cmpR op_lt (pv 2) pe_int (nomark _)) (pw_or1 (pt_cmpR op_lt (pe_def D4 hr2 rfl (pa_cons (pe_def D2 hr2 rfl (pa_cons (pv 0) (pa_cons (pv 3) pa_nil))) pa_nil))
            (pe_def D4 hr2 rfl (pa_cons (pe_def D2 hr2 rfl (pa_cons (pv 0) (pa_cons (pv 2) pa_nil))) pa_nil)) (nomark _)))))
          (pss_one (ps_set (i := 2) scEarl.nd rfl (.inl rfl) (pv 3))) pss_nil)))
      (pss_one (ps_ret (pv 2)))), ?_⟩
    refine ⟨_, rfl, _, rfl, _, rfl, _, rfl, p, CM, dx, _, _, rfl, hp, T.cm, T.mD, mF_dem _ _ _ _, p, m, _, buyers, DD, m.demand, rfl, M0, hn, SqL.of M1.dem, fun H1 r1 s1 n1 l1 => ⟨r1, rfl, ⟨_, SqL.of l1⟩, ?_⟩⟩
    have M := M0.same s1
    refine for_list (K := K) (a := r1) (xs := (plansL m buyers m.demand).map natV) (fun i σ H' => Same H1 H' ∧ ∃ v, σ = [some (.ref p), some (natV buyers), some (.int (enc (Kh432.minimizing (endFn m) ((plansL m buyers m.demand).take i)))), v])
      ⟨Same.refl _, none, rfl⟩ (fun i σ H' _ h => SqL.of (h.1 _ _ l1)) ?_ ?_
    · rintro i x σ H' hx ⟨sm, v, rfl⟩
      obtain ⟨mask, hm, rfl⟩ := mapNat hx
      have hl1 : ∀ mask, (lotsIn m mask).length ≤ 1000 := fun mask => Nat.le_trans (lotsIn_length m mask) (by omega)
      refine ⟨_, rfl, _, _, rfl, rfl, _, rfl, ?_⟩
      cases e : Kh432.minimizing (endFn m) ((plansL m buyers m.demand).take i) with
      | none =>
        refine if_of (enc_neg none) (fun _ => ?_) (fun c => nomatch c)
        refine ⟨_, rfl, sm, some (natV mask), ?_⟩
        rw [min_step1 _ hm e]
        rfl
      | some b =>
        refine if_of (enc_neg (some b)) (fun c => nomatch c) (fun _ => ?_)
        refine ⟨_, rfl, _, rfl, p, m, _, mask, rfl, M.same sm, by omega, fun H2 r2 bs s2 n2 l2 hbs => ⟨r2, bs, lotsIn m mask, rfl, SqL.of l2, hbs, hl1 _, fun H3 s3 => ?_⟩⟩
        refine ⟨_, rfl, _, rfl, p, m, _, b, rfl, M.same ((sm.trans s2).trans s3), by omega, fun H4 r4 bs4 s4 n4 l4 hbs4 => ⟨r4, bs4, lotsIn m b, rfl, SqL.of l4, hbs4, hl1 _, fun H5 s5 => ?_⟩⟩
        refine ⟨_, _, rfl, rfl, _, rfl, ?_⟩
        have s5' := ((((sm.trans s2).trans s3).trans s4).trans s5)
        refine if_of (dec_lt _ _) (fun c => ?_) (fun c => ?_)
        · refine ⟨_, rfl, s5', some (natV mask), ?_⟩
          rw [min_step2 _ hm e (of_decide_eq_true c)]
          rfl
        · refine ⟨s5', some (natV mask), ?_⟩
          rw [min_step3 _ hm e (of_decide_eq_false c)]
          rfl
    · rintro σ H' ⟨sm, v, rfl⟩
      refine ⟨_, rfl, ?_⟩
      rw [List.length_map, List.take_length]
      exact k H' (s1.trans sm)
end
end Lc
/-! part LcF -/
namespace Lc
open PySem PySem.Spec PyProof.Rows L2

/-! ### whether a number is in a list of numbers -/
theorem inV_nat (n : Nat) (l : List Nat) : inV (natV n) (l.map natV) = decide (n ∈ l) := by
  unfold inV
  rw [List.any_map, Bool.eq_iff_iff, List.any_eq_true, decide_eq_true_eq]
  constructor
  · rintro ⟨x, hx, e⟩
    have e : ((x : Int) == (n : Int)) = true := e
    rw [beq_iff_eq] at e
    have : x = n := by omega
    subst this
    exact hx
  · intro h
    refine ⟨n, h, ?_⟩
    show ((n : Int) == (n : Int)) = true
    exact beq_self_eq_true _
theorem flat_nat (l : List Nat) : (l.map natV).all flatV = true := by
  rw [List.all_map, List.all_eq_true]
  intro _ _
  rfl
theorem mem_bit {n k : Nat} (mask : Nat) (h : k < n) : decide (k ∈ mem mask n) = Kh432.isMember mask k := by
  rw [Bool.eq_iff_iff, decide_eq_true_eq, mem_iff]
  exact ⟨fun z => z.2, fun z => ⟨h, z⟩⟩

abbrev sWithout : Stmt := top 24
theorem scWithout : FnScope ["market", "buyers", "number", "found", "mask"] ["market", "buyers", "number"] (defScope sWithout) := ⟨rfl, rfl, rfl, by decide +kernel, rfl, by decide +kernel, by decide +kernel⟩
def spWithout (C CM : Addr) : Sp := fun vs H Q _ => ∃ p m fp buyers number, vs = [.ref p, natV buyers, natV number] ∧ Mkt C CM H p m fp ∧ Good m ∧ number < m.lots.length ∧
  ∀ H' r, Same H H' → H r = none → H' r = some (.lst (((plansL m buyers m.demand).filter fun mask => !Kh432.isMember mask number).map natV)) → Q (.ref r) H'
abbrev sBetter : Stmt := top 25
theorem scBetter : FnScope ["one", "other"] ["one", "other"] (defScope sBetter) := ⟨rfl, rfl, rfl, by decide +kernel, rfl, by decide +kernel, by decide +kernel⟩
def spBetter (K : PySem.W.Frag) (C : Addr) : Sp := fun vs H Q _ => ∃ a as xs b bs ys, vs = [.ref a, .ref b] ∧ SqL K H a (as.map V.ref) ∧ LotsAt C H as xs ∧ xs.length ≤ 1000 ∧ SqL K H b (bs.map V.ref) ∧ LotsAt C H bs ys ∧ ys.length ≤ 1000 ∧
  ∀ H', Same H H' → Q (.bl (better xs ys)) H'
abbrev sMost : Stmt := top 26
theorem scMost : FnScope ["market", "buyers", "budget", "best", "mask", "some"] ["market", "buyers", "budget"] (defScope sMost) := ⟨rfl, rfl, rfl, by decide +kernel, rfl, by decide +kernel, by decide +kernel⟩
def spMost (C CM : Addr) : Sp := fun vs H Q _ => ∃ p m fp buyers budget, vs = [.ref p, natV buyers, natV budget] ∧ Mkt C CM H p m fp ∧ m.lots.length ≤ 7 ∧ ∀ H', Same H H' → Q (natV (Kh432.maxUnits m buyers budget)) H'
abbrev sFree : Stmt := top 27
theorem scFree : FnScope ["ends", "start", "buyer", "end"] ["ends", "start"] (defScope sFree) := ⟨rfl, rfl, rfl, by decide +kernel, rfl, by decide +kernel, by decide +kernel⟩
def spFree (K : PySem.W.Frag) : Sp := fun vs H Q _ => ∃ a ends t, vs = [.ref a, natV t] ∧ SqL K H a (ends.map natV) ∧ ∀ H', Same H H' → Q (natV (firstFree ends t)) H'
theorem free_at {ends : List Nat} {t i e : Nat} (h : ends[i]? = some e) (he : e ≤ t) (hb : ∀ j, j < i → ∀ e', ends[j]? = some e' → ¬ e' ≤ t) : firstFree ends t = i := by
  obtain ⟨hi, rfl⟩ := List.getElem?_eq_some_iff.mp h
  unfold firstFree
  rw [List.findIdx_eq hi]
  exact ⟨decide_eq_true he, fun j hj => decide_eq_false (hb j hj _ (List.getElem?_eq_getElem (Nat.lt_trans hj hi)))⟩
theorem free_end {ends : List Nat} {t : Nat} (hb : ∀ j, j < ends.length → ∀ e', ends[j]? = some e' → ¬ e' ≤ t) : firstFree ends t = ends.length := by
  unfold firstFree
  rw [List.findIdx_eq_length]
  intro x hx
  obtain ⟨j, hj, rfl⟩ := List.getElem_of_mem hx
  exact decide_eq_false (hb j hj _ (List.getElem?_eq_getElem hj))
section
variable {P : Program} {w : World} {K : PySem.W.Frag} {mg : Str → Option Value} {base : Heap} {C CM : Addr}
theorem ok_without {f : Addr} {fd : FuncData} (F : Fun K "plans_without" "plans_without" sWithout f fd) (T : Txt K mg C CM) (D1 : Def P w K mg base "plans" 4 ["market", "buyers", "demand"] (spPlans K C CM)) (D2 : Def P w K mg base "members" 1 ["mask", "many"] spMem) :
    FnOk P w K mg base CX0 5 f fd ["market", "buyers", "number"] (spWithout C CM) := by
  refine F.ok scWithout (fun vs H Q E h => ?_) (fun cdv A outer s H vs Q E hr h => ?_)
  · obtain ⟨p, m, fp, buyers, number, rfl, _⟩ := h
    rfl
  · obtain ⟨p, m, fp, buyers, number, rfl, M, hg, hlt, k⟩ := h
    have hr1 : Room 1 _ := hr.mono (by decide)
    have hn := hg.1
    have M0 := M
    obtain ⟨L, DD, B, as, rfl, M1⟩ := M
    obtain ⟨dx, hp⟩ := M1.ins
    refine ⟨_, pss_cons (ps_set (i := 3) scWithout.nd rfl (.inl rfl) (pe_def D1 hr rfl (pa_cons (pv 0) (pa_cons (pv 1) (pa_cons (pe_fld (pv 0) rfl) pa_nil)))))
      (pss_one (ps_ret (pe_lc (own := [("mask", 4)]) (g := gName 4) (tt := tTest (tOp (rIn K true) (tVar 2) (tDef spMem (tCons (tVar 4) (tCons (tCB (fun xs H Q => ∃ p ys, xs = [.ref p] ∧ (SqL K H p ys ∨ SqT K H p ys) ∧ Q (.int ys.length) H) (tCons (tFld K (tVar 0) "lots") tNil)) tNil)))))
        (te := tVar 4) rfl scWithout.nd (pi_list (pv 3))
        (blkOk_by (N := ["market", "buyers", "number", "found", "mask"]) (sc := defScope sWithout) (by decide +kernel)) (fun _ _ _ _ _ => pg_name (i := 4) scWithout.nd rfl (Or.inl rfl))
        (fun _ _ _ _ _ => pts_one (pt_cmpR op_notIn_seq (pv 2) (pe_def D2 hr1 rfl (pa_cons (pv 4) (pa_cons (pe_callB call_len_seq (by rfl) T.len PySem.boot_len (pa_cons (pe_fld (pv 0) rfl) pa_nil)) pa_nil))) rfl))
        (fun _ _ _ _ _ => pv 4)))), ?_⟩
    refine ⟨_, rfl, _, rfl, _, rfl, p, CM, dx, _, _, rfl, hp, T.cm, T.mD, mF_dem _ _ _ _, p, m, _, buyers, DD, m.demand, rfl, M0, hn, SqL.of M1.dem, fun H1 r1 s1 n1 l1 => ?_⟩
    refine ⟨_, rfl, r1, rfl, ⟨_, SqL.of l1⟩, fun D hD => ?_⟩
    refine lc_list (xs := (plansL m buyers m.demand).map natV) (Qd := fun H' => Q (.ref D) H') (fun j H' => Same H1 H' ∧ H' D = some (.lst ((((plansL m buyers m.demand).take j).filter fun mask => !Kh432.isMember mask number).map natV)))
      ⟨same_new hD, upd_same⟩ (fun j H' _ h => SqL.of (h.1 _ _ l1)) ?_ ?_
    · rintro j x H' hx ⟨sm, hl⟩
      obtain ⟨mask, hm, rfl⟩ := mapNat hx
      have M2 := (M1.same s1).same sm
      obtain ⟨dx2, hp2⟩ := M2.ins
      refine ⟨wipe_one _ 4 _, _, rfl, _, rfl, _, rfl, p, CM, dx2, _, _, rfl, hp2, T.cm, T.mL, mF_lots _ _ _ _, _, _, rfl, .inl (SqL.of M2.lst), mask, m.lots.length, ?_, by omega, fun H2 r2 s2 n2 l2 => ?_⟩
      · rw [List.length_map, M1.len]
        rfl
      refine ⟨r2, _, rfl, .inl (SqL.of l2), rfl, flat_nat _, _, rfl, ?_⟩
      have e : (if true = true then !inV (natV number) ((mem mask m.lots.length).map natV) else inV (natV number) ((mem mask m.lots.length).map natV)) = !Kh432.isMember mask number := by
        rw [if_pos rfl, inV_nat, mem_bit mask hlt]
      have hl2 := s2 _ _ hl
      refine if_of e (fun c => ?_) (fun c => ?_)
      · refine ⟨_, rfl, _, hl2, ?_, same_upd (sm.trans s2) hD, ?_⟩
        · rw [List.length_map]
          have := filter_len (plansL m buyers m.demand) j fun mask => !Kh432.isMember mask number
          have := plans_len hn buyers m.demand
          exact line' _ (by omega)
        · rw [upd_same, filter_more _ hm, if_pos c, List.map_append]
          rfl
      · refine ⟨sm.trans s2, ?_⟩
        rw [hl2, filter_more _ hm, if_neg (by rw [c]; decide), List.append_nil]
    · rintro H' ⟨sm, hl⟩
      rw [List.length_map, List.take_length] at hl
      exact k H' D (s1.trans sm) (s1.free hD) hl
theorem ok_better {f : Addr} {fd : FuncData} (F : Fun K "is_better" "is_better" sBetter f fd) (D1 : Def P w K mg base "units_of" 1 ["lots"] (spL1 K C unitsOf)) (D2 : Def P w K mg base "cost_of" 1 ["lots"] (spL1 K C costOf)) :
    FnOk P w K mg base CX0 2 f fd ["one", "other"] (spBetter K C) := by
  refine F.ok scBetter (fun vs H Q E h => ?_) (fun cdv A outer s H vs Q E hr h => ?_)
  · obtain ⟨a, as, xs, b, bs, ys, rfl, _⟩ := h
    rfl
  · obtain ⟨a, as, xs, b, bs, ys, rfl, hA, hX, nX, hB, hY, nY, k⟩ := h
    refine ⟨_, pss_cons (ps_if (pt_cmpR op_ne (pe_def D1 hr rfl (pa_cons (pv 0) pa_nil)) (pe_def D1 hr rfl (pa_cons (pv 1) pa_nil)) (nomark _))
        (pss_one (ps_ret (pe_cmpR op_gt (pe_def D1 hr rfl (pa_cons (pv 0) pa_nil)) (pe_def D1 hr rfl (pa_cons (pv 1) pa_nil)) (nomark _)))) pss_nil)
      (pss_one (ps_ret (pe_cmpR op_lt (pe_def D2 hr rfl (pa_cons (pv 0) pa_nil)) (pe_def D2 hr rfl (pa_cons (pv 1) pa_nil)) (nomark _)))), ?_⟩
    refine ⟨_, rfl, a, as, xs, rfl, hA, hX, nX, fun H1 s1 => ⟨_, rfl, b, bs, ys, rfl, s1.seq hB, hY.same s1, nY, fun H2 s2 => ⟨rfl, _, rfl, ?_⟩⟩⟩
    have s12 := s1.trans s2
    have e : (!decide (natV (unitsOf xs) = natV (unitsOf ys))) = decide (unitsOf xs ≠ unitsOf ys) := by
      by_cases c : unitsOf xs = unitsOf ys
      · rw [c]
        simp
      · have c2 : ¬ natV (unitsOf xs) = natV (unitsOf ys) := fun z => c (by
          unfold natV at z
          injection z with z
          omega)
        simp [c, c2]
    refine if_of e (fun c => ?_) (fun c => ?_)
    · refine ⟨_, rfl, a, as, xs, rfl, s12.seq hA, hX.same s12, nX, fun H3 s3 => ⟨_, rfl, b, bs, ys, rfl, (s12.trans s3).seq hB, hY.same (s12.trans s3), nY, fun H4 s4 => ⟨_, _, rfl, rfl, ?_⟩⟩⟩
      have q := k H4 ((s12.trans s3).trans s4)
      unfold better at q
      rw [if_pos (of_decide_eq_true c), ← dec_lt] at q
      exact q
    · refine ⟨_, rfl, a, as, xs, rfl, s12.seq hA, hX.same s12, nX, fun H3 s3 => ⟨_, rfl, b, bs, ys, rfl, (s12.trans s3).seq hB, hY.same (s12.trans s3), nY, fun H4 s4 => ⟨_, _, rfl, rfl, ?_⟩⟩⟩
      have q := k H4 ((s12.trans s3).trans s4)
      unfold better at q
      rw [if_neg (of_decide_eq_false c), ← dec_lt] at q
      exact q
theorem ok_most {f : Addr} {fd : FuncData} (F : Fun K "most_units" "most_units" sMost f fd) (D1 : Def P w K mg base "masks_of" 2 ["market"] (spMasks C CM)) (D2 : Def P w K mg base "lots_in" 2 ["market", "mask"] (spIn C CM))
    (D3 : Def P w K mg base "cost_of" 1 ["lots"] (spL1 K C costOf)) (D4 : Def P w K mg base "buyers_needed" 3 ["lots"] (spL1 K C need)) (D5 : Def P w K mg base "is_better" 2 ["one", "other"] (spBetter K C)) : FnOk P w K mg base CX0 4 f fd ["market", "buyers", "budget"] (spMost C CM) := by
  refine F.ok scMost (fun vs H Q E h => ?_) (fun cdv A outer s H vs Q E hr h => ?_)
  · obtain ⟨p, m, fp, buyers, budget, rfl, _⟩ := h
    rfl
  · obtain ⟨p, m, fp, buyers, budget, rfl, M, hn, k⟩ := h
    have hr2 : Room 2 _ := hr.mono (by decide)
    have hr1 : Room 1 _ := hr.mono (by decide)
    refine ⟨_, pss_cons (ps_set (i := 3) scMost.nd rfl (.inl rfl) pe_int)
      (pss_cons (ps_for PassesOwn.never rfl (pi_list (pe_def D1 hr2 rfl (pa_cons (pv 0) pa_nil))) (pg_name (i := 4) scMost.nd rfl (.inl rfl))
        (pss_cons (ps_set (i := 5) scMost.nd rfl (.inl rfl) (pe_def D2 hr2 rfl (pa_cons (pv 0) (pa_cons (pv 4) pa_nil))))
        (pss_one (ps_if (PW.pt (pw_and (pt_cmpR op_le (pe_def D3 hr1 rfl (pa_cons (pv 5) pa_nil)) (pv 2) (nomark _)) (pw_and (pt_cmpR op_le (pe_def D4 hr rfl (pa_cons (pv 5) pa_nil)) (pv 1) (nomark _))
            (pw_and1 (pt_val (pe_def D5 hr2 rfl (pa_cons (pv 5) (pa_cons (pe_def D2 hr2 rfl (pa_cons (pv 0) (pa_cons (pv 3) pa_nil))) pa_nil))))))))
          (pss_one (ps_set (i := 3) scMost.nd rfl (.inl rfl) (pv 4))) pss_nil))))
      (pss_one (ps_ret (pv 3)))), ?_⟩
    refine ⟨_, rfl, p, m, fp, rfl, M, hn, fun H1 r1 s1 n1 l1 => ⟨r1, rfl, ⟨_, SqL.of l1⟩, ?_⟩⟩
    refine for_list (K := K) (a := r1) (xs := (Kh432.allSets m).map natV) (fun i σ H' => Same H1 H' ∧ ∃ v1 v2, σ = [some (.ref p), some (natV buyers), some (natV budget), some (natV (((Kh432.allSets m).take i).foldl (mostStep m buyers budget) 0)), v1, v2])
      ⟨Same.refl _, none, none, rfl⟩ (fun i σ H' _ h => SqL.of (h.1 _ _ l1)) ?_ ?_
    · rintro i x σ H' hx ⟨sm, v1, v2, rfl⟩
      obtain ⟨mask, hm, rfl⟩ := mapNat hx
      have hl1 : ∀ mask, (lotsIn m mask).length ≤ 1000 := fun mask => Nat.le_trans (lotsIn_length m mask) (by omega)
      have step : ((Kh432.allSets m).take (i + 1)).foldl (mostStep m buyers budget) 0 = mostStep m buyers budget (((Kh432.allSets m).take i).foldl (mostStep m buyers budget) 0) mask := by
        rw [take_more hm, List.foldl_append]
        rfl
      rw [step]
      generalize ((Kh432.allSets m).take i).foldl (mostStep m buyers budget) 0 = best
      refine ⟨_, rfl, _, rfl, p, m, fp, mask, rfl, (M.same s1).same sm, by omega, fun H2 r2 bs s2 n2 l2 hbs => ?_⟩
      have s02 := sm.trans s2
      have no : (decide (costOf (lotsIn m mask) ≤ budget) && (decide (need (lotsIn m mask) ≤ buyers) && better (lotsIn m mask) (lotsIn m best))) = false → ∀ H4 : Hp, Same H1 H4 → Same H1 H4 ∧
          ∃ v1 v2, [some (.ref p), some (natV buyers), some (natV budget), some (natV best), some (natV mask), some (.ref r2)] = [some (.ref p), some (natV buyers), some (natV budget), some (natV (mostStep m buyers budget best mask)), v1, v2] := fun c H4 s4 => by
        refine ⟨s4, some (natV mask), some (.ref r2), ?_⟩
        rw [show mostStep m buyers budget best mask = best from if_neg (by rw [c]; decide)]
      refine ⟨_, rfl, r2, bs, lotsIn m mask, rfl, SqL.of l2, hbs, hl1 _, fun H3 s3 => ⟨_, rfl, _, _, rfl, rfl, _, rfl, ?_⟩⟩
      refine if_of (dec_le _ _) (fun c1 => ?_) (fun c1 => no (by rw [c1, Bool.false_and]) H3 (s02.trans s3))
      refine ⟨_, rfl, r2, bs, lotsIn m mask, rfl, SqL.of (s3 _ _ l2), hbs.same s3, hl1 _, fun H4 s4 => ⟨_, rfl, _, _, rfl, rfl, _, rfl, ?_⟩⟩
      refine if_of (dec_le _ _) (fun c2 => ?_) (fun c2 => no (by rw [c2, Bool.false_and, Bool.and_false]) H4 ((s02.trans s3).trans s4))
      refine ⟨_, rfl, _, rfl, _, rfl, p, m, fp, best, rfl, (M.same s1).same ((s02.trans s3).trans s4), by omega, fun H5 r5 bs5 s5 n5 l5 hbs5 => ?_⟩
      refine ⟨r2, bs, lotsIn m mask, r5, bs5, lotsIn m best, rfl, SqL.of (s5 _ _ (s4 _ _ (s3 _ _ l2))), ((hbs.same s3).same s4).same s5, hl1 _, SqL.of l5, hbs5, hl1 _, fun H6 s6 => ⟨_, rfl, ?_⟩⟩
      have s06 := (((s02.trans s3).trans s4).trans s5).trans s6
      refine if_of rfl (fun c3 => ?_) (fun c3 => no (by rw [c3, Bool.and_false, Bool.and_false]) H6 s06)
      refine ⟨_, rfl, s06, some (natV mask), some (.ref r2), ?_⟩
      rw [show mostStep m buyers budget best mask = mask from if_pos (by rw [c1, c2, c3]; rfl)]
      rfl
    · rintro σ H' ⟨sm, v1, v2, rfl⟩
      rw [List.length_map, List.take_length, most_is]
      exact ⟨_, rfl, k H' (s1.trans sm)⟩
theorem ok_free {f : Addr} {fd : FuncData} (F : Fun K "first_free" "first_free" sFree f fd) (T : Txt K mg C CM) : FnOk P w K mg base CX0 1 f fd ["ends", "start"] (spFree K) := by
  refine F.ok scFree (fun vs H Q E h => ?_) (fun cdv A outer s H vs Q E hr h => ?_)
  · obtain ⟨a, ends, t, rfl, _⟩ := h
    rfl
  · obtain ⟨a, ends, t, rfl, hS, k⟩ := h
    refine ⟨_, pss_cons (ps_for PassesOwn.never rfl (pi_enum (by rfl) T.enum (pa_cons (pv 0) pa_nil))
        (pg_tup rfl (pgs_cons (pg_name (i := 2) scFree.nd rfl (.inl rfl)) (pgs_cons (pg_name (i := 3) scFree.nd rfl (.inl rfl)) pgs_nil)))
        (pss_one (ps_if (pt_cmpR op_le (pv 3) (pv 1) (nomark _)) (pss_one (ps_ret (pv 2))) pss_nil)))
      (pss_one (ps_ret (pe_callB call_len_seq (by rfl) T.len PySem.boot_len (pa_cons (pv 0) pa_nil)))), ?_⟩
    refine ⟨_, rfl, a, _, rfl, hS, for_it (walk_enum (K := K) (a := a) (xs := ends.map natV)) (fun i σ H' => Same H H' ∧ (∀ j, j < i → ∀ e', ends[j]? = some e' → ¬ e' ≤ t) ∧ ∃ v1 v2, σ = [some (.ref a), some (natV t), v1, v2])
      ⟨Same.refl _, fun j hj => absurd hj (Nat.not_lt_zero j), none, none, rfl⟩ (fun i σ H' _ h => h.1.seq hS) ?_ ?_⟩
    · rintro i x σ H' H2 hi ⟨sm, hb, v1, v2, rfl⟩ ⟨TT, x', y', rfl, hT, rfl, hx, hy⟩
      cases hx
      obtain ⟨e, he, rfl⟩ := mapNat hy
      have sT := same_upd (o := .tup [V.int (i : Nat), natV e]) sm (sm.free hT)
      refine ⟨TT, _, rfl, SqT.of upd_same, rfl, _, _, rfl, _, _, rfl, rfl, _, rfl, _, rfl, _, _, rfl, rfl, _, rfl, ?_⟩
      refine if_of (dec_le _ _) (fun c => ?_) (fun c => ?_)
      · refine ⟨_, rfl, ?_⟩
        have q := k _ sT
        rw [free_at he (of_decide_eq_true c) hb] at q
        exact q
      · refine ⟨sT, fun j hj e' h' => ?_, some (V.int (i : Nat)), some (natV e), rfl⟩
        by_cases hji : j = i
        · subst hji
          rw [he] at h'
          cases h'
          exact of_decide_eq_false c
        · exact hb j (by omega) e' h'
    · rintro σ H' ⟨sm, hb, v1, v2, rfl⟩
      rw [List.length_map] at hb
      refine ⟨_, rfl, _, _, rfl, .inl (sm.seq hS), ?_⟩
      have q := k _ sm
      rw [free_end hb] at q
      rw [List.length_map]
      exact q
end
end Lc
/-! part LcG -/
namespace Lc
open PySem PySem.Spec PyProof.Rows L2

abbrev sAsg : Stmt := top 28
theorem scAsg : FnScope ["market", "mask", "number", "rows", "ends", "parts", "start", "buyer"] ["market", "mask"] (defScope sAsg) := ⟨rfl, rfl, rfl, by decide +kernel, rfl, by decide +kernel, by decide +kernel⟩
def spAsg (C CM : Addr) : Sp := fun vs H Q _ => ∃ p m fp mask, vs = [.ref p, natV mask] ∧ Mkt C CM H p m fp ∧ m.lots.length ≤ 7 ∧
  ∀ H' r, Same H H' → H r = none → H' r = some (.lst ((Kh432.assignment m mask).map natV)) → Q (.ref r) H'
/-- pairs of start and number -/
structure PairsAt (m : Kh432.Market) (H : Hp) (bs : List Addr) (ks : List Nat) : Prop where
  len : bs.length = ks.length
  tup : ∀ (i : Nat) (b : Addr) (k : Nat), bs[i]? = some b → ks[i]? = some k → H b = some (.tup [natV (Kh432.lotAt m k).start, natV k])
theorem PairsAt.same {m : Kh432.Market} {H H' : Hp} {bs : List Addr} {ks : List Nat} (h : PairsAt m H bs ks) (s : Same H H') : PairsAt m H' bs ks := ⟨h.len, fun i b k h1 h2 => s _ _ (h.tup i b k h1 h2)⟩
theorem PairsAt.snoc {m : Kh432.Market} {H : Hp} {bs : List Addr} {ks : List Nat} {b : Addr} {k : Nat} (h : PairsAt m H bs ks) (hb : H b = some (.tup [natV (Kh432.lotAt m k).start, natV k])) : PairsAt m H (bs ++ [b]) (ks ++ [k]) := by
  refine ⟨by simp [h.len], fun i c j h1 h2 => ?_⟩
  by_cases hi : i < bs.length
  · rw [List.getElem?_append_left hi] at h1
    rw [List.getElem?_append_left (by rw [← h.len]; exact hi)] at h2
    exact h.tup i c j h1 h2
  · have e : i = bs.length := by
      have := (List.getElem?_eq_some_iff.mp h1).1
      simp at this
      omega
    subst e
    rw [List.getElem?_append_right (Nat.le_refl _)] at h1
    rw [h.len, List.getElem?_append_right (Nat.le_refl _)] at h2
    simp at h1 h2
    subst h1 h2
    exact hb
/-- the two ints of the tuple at x -/
def kOf (H : Hp) (x : V) : Int × Int := match x with
  | .ref t => (match H t with
    | some (.tup [.int a, .int b]) => (a, b)
    | _ => (0, 0))
  | _ => (0, 0)
theorem kOf_at {H : Hp} {t : Addr} {a b : Int} (h : H t = some (.tup [.int a, .int b])) : kOf H (.ref t) = (a, b) := by
  unfold kOf
  simp only [h]
theorem PairsAt.keys {m : Kh432.Market} {H : Hp} {bs : List Addr} {ks : List Nat} (h : PairsAt m H bs ks) : (bs.map V.ref).map (kOf H) = ks.map (pr m) := by
  refine List.ext_getElem (by simp [h.len]) fun i h1 h2 => ?_
  have hi : i < bs.length := by simpa using h1
  have hk : i < ks.length := by rw [← h.len]; exact hi
  have e := h.tup i bs[i] ks[i] (List.getElem?_eq_getElem hi) (List.getElem?_eq_getElem hk)
  simp only [List.getElem_map]
  rw [kOf_at e]
  rfl
theorem PairsAt.all {m : Kh432.Market} {H : Hp} {bs : List Addr} {ks : List Nat} (h : PairsAt m H bs ks) : ∀ x ∈ bs.map V.ref, ∃ t, x = V.ref t ∧ H t = some (.tup [.int (kOf H x).1, .int (kOf H x).2]) := by
  intro x hx
  obtain ⟨b, hb, rfl⟩ := List.mem_map.mp hx
  obtain ⟨i, hi, rfl⟩ := List.getElem_of_mem hb
  have hk : i < ks.length := by rw [← h.len]; exact hi
  have e := h.tup i bs[i] ks[i] (List.getElem?_eq_getElem hi) (List.getElem?_eq_getElem hk)
  refine ⟨_, rfl, ?_⟩
  rw [kOf_at e]
  exact e
theorem map_set_nat (xs : List Nat) (b x : Nat) : (xs.map natV).set b (natV x) = (xs.set b x).map natV := List.map_set.symm
theorem ix_nat {n k : Nat} (h : k < n) : ixN n (k : Int) = some k := by
  unfold ixN
  rw [if_pos (by omega), if_pos (by omega)]
  rfl
section
variable {P : Program} {w : World} {K : PySem.W.Frag} {mg : Str → Option Value} {base : Heap} {C CM : Addr}
/-- ends[buyer] = end_of(market.lots[number]); parts[buyer] += bit_of(number) -/
theorem asg_tail (T : Txt K mg C CM) {D : Ends} {H : Hp} {p E Pp R : Addr} {m : Kh432.Market} {fp : List Addr} {mask i b : Nat} {xs ys : List Nat} {v1 : Option V} (M : Mkt C CM H p m fp) (hi : i < m.lots.length) (hn : m.lots.length ≤ 7)
    (hE : H E = some (.lst (xs.map natV))) (hP : H Pp = some (.lst (ys.map natV))) (hx : b < xs.length) (hy : b < ys.length) (hne : E ≠ Pp)
    (k : D.nx [some (.ref p), some (natV mask), some (natV i), some (.ref R), some (.ref E), some (.ref Pp), v1, some (natV b)]
      (upd (upd H E (.lst ((xs.set b (endL (Kh432.lotAt m i))).map natV))) Pp (.lst ((ys.set b (ys.getD b 0 + 2 ^ i)).map natV)))) :
    tSeq (tAsg (tDef (spEnd C) (tCons (tOp (rIxL K) (tFld K (tVar 0) "lots") (tVar 2)) tNil)) (gSub (tVar 4) (tVar 7) rSetL))
      (tAugS (tVar 5) (tVar 7) (tDef spBit (tCons (tVar 2) tNil)) (rGetL K) (ipI fun i j => i + j) rSetL) D
      [some (.ref p), some (natV mask), some (natV i), some (.ref R), some (.ref E), some (.ref Pp), v1, some (natV b)] H := by
  obtain ⟨L, DD, B, as, rfl, M⟩ := M
  obtain ⟨dx, hp⟩ := M.ins
  obtain ⟨c, hc, hlot⟩ := M.lots.get (List.getElem?_eq_getElem hi)
  rw [← lotAt_get (List.getElem?_eq_getElem hi)] at hlot
  refine ⟨_, rfl, p, CM, dx, _, _, rfl, hp, T.cm, T.mL, mF_lots _ _ _ _, _, rfl, L, _, _, V.ref c, rfl, rfl, SqL.of M.lst, atI_nat (by rw [List.getElem?_map, hc]; rfl), c, Kh432.lotAt m i, rfl, hlot, _, rfl, _, rfl, E, _, _, b, rfl, rfl, hE, ix_nat (by rw [List.length_map]; exact hx), ?_⟩
  rw [map_set_nat]
  have gy : ys[b]? = some ys[b] := List.getElem?_eq_getElem hy
  have hP2 : upd H E (.lst ((xs.set b (endL (Kh432.lotAt m i))).map natV)) Pp = some (.lst (ys.map natV)) := by rw [upd_ne (Ne.symm hne)]; exact hP
  refine ⟨_, rfl, _, rfl, Pp, _, b, natV ys[b], rfl, rfl, SqL.of hP2, by rw [List.getElem?_map, gy]; rfl, _, rfl, i, rfl, by omega, _, _, rfl, rfl, Pp, _, _, b, rfl, rfl, hP2, ix_nat (by rw [List.length_map]; exact hy), ?_⟩
  have e1 : ys.getD b 0 = ys[b] := by rw [List.getD_eq_getElem?_getD, gy]; rfl
  rw [e1] at k
  have e2 : V.int ((ys[b] : Nat) + ((2 ^ i : Nat) : Int)) = natV (ys[b] + 2 ^ i) := by
    unfold natV
    congr 1
  show D.nx _ (upd (upd H E (.lst ((xs.set b (endL (Kh432.lotAt m i))).map natV))) Pp (.lst ((ys.map natV).set b (V.int ((ys[b] : Nat) + ((2 ^ i : Nat) : Int))))))
  rw [e2, map_set_nat]
  exact k
theorem ok_asg {f : Addr} {fd : FuncData} (F : Fun K "assignment" "assignment" sAsg f fd) (T : Txt K mg C CM) (D1 : Def P w K mg base "members" 1 ["mask", "many"] spMem) (D2 : Def P w K mg base "first_free" 1 ["ends", "start"] (spFree K))
    (D3 : Def P w K mg base "end_of" 1 ["lot"] (spEnd C)) (D4 : Def P w K mg base "bit_of" 1 ["number"] spBit) : FnOk P w K mg base CX0 2 f fd ["market", "mask"] (spAsg C CM) := by
  refine F.ok scAsg (fun vs H Q E h => ?_) (fun cdv A outer s H vs Q E hr h => ?_)
  · obtain ⟨p, m, fp, mask, rfl, _⟩ := h
    rfl
  · obtain ⟨p, m, fp, mask, rfl, M, hn, k⟩ := h
    have M0 := M
    obtain ⟨L, DD, B, as, rfl, M1⟩ := M
    obtain ⟨dx, hp⟩ := M1.ins
    refine ⟨_, pss_cons (ps_set (i := 3) scAsg.nd rfl (.inl rfl) (pe_callB cr_sortedPO (by rfl) T.sorted PyProof.Rows.boot_sorted (pa_cons (pe_lc (own := [("number", 2)]) (g := gName 2) (tt := tYes)
        (te := tTup (tCons (tFld K (tOp (rIxL K) (tFld K (tVar 0) "lots") (tVar 2)) "start") (tCons (tVar 2) tNil))) rfl scAsg.nd
        (pi_list (pe_def D1 hr rfl (pa_cons (pv 1) (pa_cons (pe_callB call_len_seq (by rfl) T.len PySem.boot_len (pa_cons (pe_fld (pv 0) rfl) pa_nil)) pa_nil))))
        (blkOk_by (N := ["market", "mask", "number", "rows", "ends", "parts", "start", "buyer"]) (sc := defScope sAsg) (by decide +kernel)) (fun _ _ _ _ _ => pg_name (i := 2) scAsg.nd rfl (Or.inl rfl)) (fun _ _ _ _ _ => pts_nil)
        (fun _ _ _ _ _ => pe_tup (pa_cons (pe_fld (pe_ix ix_list (pe_fld (pv 0) rfl) (pv 2) (fun _ _ => rfl)) rfl) (pa_cons (pv 2) pa_nil)))) pa_nil)))
      (pss_cons (ps_set (i := 4) scAsg.nd rfl (.inl rfl) (pe_lst pa_nil))
      (pss_cons (ps_set (i := 5) scAsg.nd rfl (.inl rfl) (pe_lst pa_nil))
      (pss_cons (ps_for PassesOwn.never rfl (pi_list (pv 3)) (pg_tup rfl (pgs_cons (pg_name (i := 6) scAsg.nd rfl (.inl rfl)) (pgs_cons (pg_name (i := 2) scAsg.nd rfl (.inl rfl)) pgs_nil)))
        (pss_cons (ps_set (i := 7) scAsg.nd rfl (.inl rfl) (pe_def D2 hr rfl (pa_cons (pv 4) (pa_cons (pv 6) pa_nil))))
        (pss_cons (ps_if (pt_cmpR op_eq (pv 7) (pe_callB call_len_seq (by rfl) T.len PySem.boot_len (pa_cons (pv 4) pa_nil)) (nomark _))
          (pss_cons (ps_expr (pe_bm PySem.F.plainAttrs_list PySem.F.slot_list_append PySem.F.type_list_append mt_append (pv 4) (pa_cons pe_int pa_nil)))
          (pss_one (ps_expr (pe_bm PySem.F.plainAttrs_list PySem.F.slot_list_append PySem.F.type_list_append mt_append (pv 5) (pa_cons pe_int pa_nil))))) pss_nil)
        (pss_cons (ps_asg (pe_def D3 hr rfl (pa_cons (pe_ix ix_list (pe_fld (pv 0) rfl) (pv 2) (fun _ _ => rfl)) pa_nil)) (pg_sub (pv 4) (pv 7) set_list))
        (pss_one (ps_augS (pv 5) (pv 7) get_list (pe_def D4 hr rfl (pa_cons (pv 2) pa_nil)) ip_add set_list))))))
      (pss_one (ps_ret (pv 5)))))), ?_⟩
    refine ⟨_, rfl, _, rfl, p, CM, dx, _, _, rfl, hp, T.cm, T.mL, mF_lots _ _ _ _, _, _, rfl, .inl (SqL.of M1.lst), mask, m.lots.length, ?_, by omega, fun H1 r1 s1 n1 l1 => ?_⟩
    · rw [List.length_map, M1.len]
      rfl
    refine ⟨r1, rfl, ⟨_, SqL.of l1⟩, fun Dl hD => ?_⟩
    have MM := M1.same s1
    refine lc_list (xs := (mem mask m.lots.length).map natV) (fun j H' => Same H1 H' ∧ ∃ bs : List Addr, H' Dl = some (.lst (bs.map V.ref)) ∧ PairsAt m H' bs ((mem mask m.lots.length).take j))
      ⟨same_new hD, [], upd_same, rfl, by simp⟩ (fun j H' _ h => (SqL.of (h.1 _ _ l1))) ?_ ?_
    · rintro j x H' hx ⟨sm, bs, hl, hbs⟩
      obtain ⟨n, hnj, rfl⟩ := mapNat hx
      have hlt : n < m.lots.length := mem_lt (List.mem_of_getElem? hnj)
      obtain ⟨b, hb, hlot⟩ := MM.lots.get (List.getElem?_eq_getElem hlt)
      rw [← lotAt_get (List.getElem?_eq_getElem hlt)] at hlot
      have M2 := MM.same sm
      obtain ⟨dx2, hp2⟩ := M2.ins
      obtain ⟨dx3, hb3⟩ := hlot.same sm
      refine ⟨wipe_one _ 2 _, yes_of ?_⟩
      refine ⟨_, rfl, p, CM, dx2, _, _, rfl, hp2, T.cm, T.mL, mF_lots _ _ _ _, _, rfl, L, _, _, V.ref b, rfl, rfl, SqL.of M2.lst, atI_nat (by rw [List.getElem?_map, hb]; rfl), b, C, dx3, _, _, rfl, hb3, T.cl, T.aS, lF_start _, _, rfl, (by show 2 ≤ sizeLine; decide), fun t ht => ?_⟩
      have sT := same_upd (o := .tup [natV (Kh432.lotAt m n).start, natV n]) sm (sm.free ht)
      have hlT : upd H' t (.tup [natV (Kh432.lotAt m n).start, natV n]) Dl = some (.lst (bs.map V.ref)) := by rw [upd_ne (ne_of_none hl ht)]; exact hl
      refine ⟨_, hlT, ?_, same_upd sT hD, bs ++ [t], by rw [upd_same, List.map_append]; rfl, ?_⟩
      · rw [List.length_map, hbs.len, List.length_take]
        have := mem_length mask m.lots.length
        exact line' _ (by omega)
      · rw [take_more hnj]
        have htD : t ≠ Dl := (ne_of_none hl ht).symm
        refine PairsAt.snoc ⟨hbs.len, fun i b' k' h1 h2 => ?_⟩ (by rw [upd_ne htD, upd_same])
        have e := hbs.tup i b' k' h1 h2
        rw [upd_ne (ne_of e hl (by intro z; cases z)), upd_ne (ne_of_none e ht)]
        exact e
    · rintro H2 ⟨sm, bs, hl, hbs⟩
      rw [List.length_map, List.take_length] at hbs
      refine ⟨Dl, bs.map V.ref, kOf H2, rfl, SqL.of hl, hbs.all, fun ys R srt stb hR => ?_⟩
      have s02 := s1.trans sm
      -- the rows in their order
      have hZ : ys.map (kOf H2) = (Kh432.sortedByStart m mask).map (pr m) := by
        refine sorted_is ?_ ?_
        · have e := hbs.keys
          rw [members_mem, ← e]
          exact stb.perm.map _
        · rw [List.pairwise_map]
          refine List.Pairwise.imp (fun {x y} z => ?_) srt
          unfold leP
          intro q
          have e : ltP (kOf H2) y x = true := SrtO.lexB_iff.mpr q
          rw [e] at z
          cases z
      have hlen : ys.length = (Kh432.sortedByStart m mask).length := by
        have := congrArg List.length hZ
        rwa [List.length_map, List.length_map] at this
      have row : ∀ (j : Nat) (x : V), ys[j]? = some x → ∃ (t : Addr) (i : Nat), x = .ref t ∧ (Kh432.sortedByStart m mask)[j]? = some i ∧ H2 t = some (.tup [natV (Kh432.lotAt m i).start, natV i]) := by
        intro j x hx
        obtain ⟨t, rfl, ht⟩ := hbs.all x (stb.perm.mem_iff.mp (List.mem_of_getElem? hx))
        have hj : j < (Kh432.sortedByStart m mask).length := by rw [← hlen]; exact (List.getElem?_eq_some_iff.mp hx).1
        have e1 : (ys.map (kOf H2))[j]? = some (kOf H2 (.ref t)) := by rw [List.getElem?_map, hx]; rfl
        rw [hZ, List.getElem?_map, List.getElem?_eq_getElem hj] at e1
        have e2 : pr m (Kh432.sortedByStart m mask)[j] = kOf H2 (.ref t) := Option.some.inj e1
        rw [← e2] at ht
        exact ⟨t, _, rfl, List.getElem?_eq_getElem hj, ht⟩
      refine ⟨Nat.zero_le _, fun Ea hE => ⟨Nat.zero_le _, fun Pa hP => ?_⟩⟩
      have s3 := same_new (o := .lst ys) hR
      have nE3 : upd H2 R (.lst ys) Ea = none := hE
      have hER : Ea ≠ R := fun e => by rw [e, upd_same] at hE; cases hE
      have hPR : Pa ≠ R := fun e => by
        rw [e, upd_ne hER.symm, upd_same] at hP
        cases hP
      have hEP : Ea ≠ Pa := fun e => by rw [e, upd_same] at hP; cases hP
      have nP3 : upd H2 R (.lst ys) Pa = none := by rw [upd_ne hEP.symm] at hP; exact hP
      generalize hH3 : upd H2 R (.lst ys) = H3 at *
      have s03 : Same H H3 := s02.trans s3
      have hR3 : H3 R = some (.lst ys) := by rw [← hH3, upd_same]
      refine ⟨_, rfl, R, rfl, ⟨_, SqL.of (by rw [upd_ne hPR.symm, upd_ne hER.symm]; exact hR3)⟩, for_list (K := K) (a := R) (xs := ys) (fun j σ H' => Same H3 H' ∧ H' Ea = some (.lst ((asgRun m ((Kh432.sortedByStart m mask).take j)).1.map natV)) ∧ H' Pa = some (.lst ((asgRun m ((Kh432.sortedByStart m mask).take j)).2.map natV)) ∧
        ∃ v0 v1 v2, σ = [some (.ref p), some (natV mask), v0, some (.ref R), some (.ref Ea), some (.ref Pa), v1, v2])
        ⟨same_upd (same_new nE3) nP3, by rw [upd_ne hEP, upd_same]; rfl, by rw [upd_same]; rfl, none, none, none, rfl⟩ (fun j σ H' _ h => SqL.of (h.1 _ _ hR3)) ?_ ?_⟩
      · rintro j x σ H' hx ⟨sm', hE', hP', v0, v1, v2, rfl⟩
        obtain ⟨t, i, rfl, hi, ht⟩ := row j x hx
        have hil : i < m.lots.length := sorted_mem (List.mem_of_getElem? hi)
        have ht' : H' t = some (.tup [natV (Kh432.lotAt m i).start, natV i]) := sm' _ _ (s3 _ _ ht)
        have step : asgRun m ((Kh432.sortedByStart m mask).take (j + 1)) = asgStep m (asgRun m ((Kh432.sortedByStart m mask).take j)) i := by
          rw [take_more hi, asg_more]
        have hln := asg_len m ((Kh432.sortedByStart m mask).take j)
        have hlj : (asgRun m ((Kh432.sortedByStart m mask).take j)).1.length ≤ 7 := by
          have h1 := hln.2
          rw [List.length_take] at h1
          have h2 := sorted_length m mask
          omega
        rw [step]
        generalize asgRun m ((Kh432.sortedByStart m mask).take j) = st at *
        refine ⟨t, _, rfl, SqT.of ht', rfl, _, _, rfl, _, _, rfl, rfl, _, rfl, _, rfl, Ea, st.1, (Kh432.lotAt m i).start, rfl, SqL.of hE', fun H6 s6 => ?_⟩
        have s36 := sm'.trans s6
        have hE6 := s6 _ _ hE'
        have hP6 := s6 _ _ hP'
        have e : decide (natV (firstFree st.1 (Kh432.lotAt m i).start) = V.int (((st.1.map natV).length : Nat) : Int)) = decide (firstFree st.1 (Kh432.lotAt m i).start = st.1.length) := by
          rw [List.length_map, decide_eq_decide]
          unfold natV
          constructor
          · intro z
            injection z with z
            omega
          · intro z
            rw [z]
        refine ⟨_, rfl, _, rfl, _, _, rfl, .inl (SqL.of hE6), rfl, _, rfl, ?_⟩
        refine if_of e (fun c => ?_) (fun c => ?_)
        · -- a new buyer
          have c := of_decide_eq_true c
          have hP7 : upd H6 Ea (.lst (st.1.map natV ++ [natV 0])) Pa = some (.lst (st.2.map natV)) := by rw [upd_ne hEP.symm]; exact hP6
          refine ⟨_, rfl, .inl ⟨rfl, _, SqL.of hE6⟩, Ea, _, _, rfl, rfl, hE6, by rw [List.length_map]; exact line' _ (by omega), _, rfl, .inl ⟨rfl, _, SqL.of hP7⟩, Pa, _, _, rfl, rfl, hP7, by rw [List.length_map]; exact line' _ (by omega), ?_⟩
          have s7 : Same H3 (upd (upd H6 Ea (.lst (st.1.map natV ++ [natV 0]))) Pa (.lst (st.2.map natV ++ [natV 0]))) := same_upd (same_upd s36 nE3) nP3
          refine asg_tail T (M0.same (s03.trans s7)) hil hn (xs := st.1 ++ [0]) (ys := st.2 ++ [0]) (by rw [upd_ne hEP, upd_same, List.map_append]; rfl) (by rw [upd_same, List.map_append]; rfl) (by rw [c]; simp) (by rw [c, hln.1]; simp) hEP ?_
          have e2 : asgStep m st i = ((st.1 ++ [0]).set (firstFree st.1 (Kh432.lotAt m i).start) (endL (Kh432.lotAt m i)), (st.2 ++ [0]).set (firstFree st.1 (Kh432.lotAt m i).start) ((st.2 ++ [0]).getD (firstFree st.1 (Kh432.lotAt m i).start) 0 + 2 ^ i)) := by
            unfold asgStep
            simp only [if_pos c]
          rw [e2]
          exact ⟨same_upd (same_upd s7 nE3) nP3, by rw [upd_ne hEP, upd_same], by rw [upd_same], some (natV i), some (natV (Kh432.lotAt m i).start), some (natV (firstFree st.1 (Kh432.lotAt m i).start)), rfl⟩
        · have c := of_decide_eq_false c
          have hb : firstFree st.1 (Kh432.lotAt m i).start < st.1.length := Nat.lt_of_le_of_ne List.findIdx_le_length c
          refine asg_tail T (M0.same (s03.trans s36)) hil hn (xs := st.1) (ys := st.2) hE6 hP6 hb (by rw [← hln.1]; exact hb) hEP ?_
          have e2 : asgStep m st i = (st.1.set (firstFree st.1 (Kh432.lotAt m i).start) (endL (Kh432.lotAt m i)), st.2.set (firstFree st.1 (Kh432.lotAt m i).start) (st.2.getD (firstFree st.1 (Kh432.lotAt m i).start) 0 + 2 ^ i)) := by
            unfold asgStep
            simp only [if_neg c]
          rw [e2]
          exact ⟨same_upd (same_upd s36 nE3) nP3, by rw [upd_ne hEP, upd_same], by rw [upd_same], some (natV i), some (natV (Kh432.lotAt m i).start), some (natV (firstFree st.1 (Kh432.lotAt m i).start)), rfl⟩
      · rintro σ H' ⟨sm', hE', hP', v0, v1, v2, rfl⟩
        rw [hlen, List.take_length, asg_is] at hP'
        exact ⟨_, rfl, k H' Pa (s03.trans sm') (s03.free nP3) hP'⟩
end
end Lc
/-! part LcH -/
namespace Lc
open PySem PySem.Spec PyProof.Rows L2

/-! ### the items of a list whose places pass -/
def pick {α : Type} (q : Nat → Bool) (l : List α) : List α := (l.zipIdx.filter fun x => q x.2).map fun x => x.1
theorem pick_snoc {α : Type} (q : Nat → Bool) (l : List α) (x : α) : pick q (l ++ [x]) = pick q l ++ (if q l.length = true then [x] else []) := by
  unfold pick
  rw [List.zipIdx_append, List.filter_append, List.map_append]
  congr 1
  rw [Nat.zero_add]
  rw [List.zipIdx_cons, List.zipIdx_nil]
  by_cases c : q l.length = true
  · rw [if_pos c, List.filter_cons_of_pos (by exact c)]
    rfl
  · rw [if_neg c, List.filter_cons_of_neg (by exact c)]
    rfl
theorem pick_more {α : Type} (q : Nat → Bool) {l : List α} {i : Nat} {x : α} (h : l[i]? = some x) : pick q (l.take (i + 1)) = pick q (l.take i) ++ (if q i = true then [x] else []) := by
  have hi := (List.getElem?_eq_some_iff.mp h).1
  have e : (l.take i).length = i := by rw [List.length_take]; omega
  rw [take_more h, pick_snoc, e]
theorem pick_sub {α : Type} (q : Nat → Bool) (l : List α) : (pick q l).Sublist l := by
  unfold pick
  have h : ((l.zipIdx.filter fun x => q x.2).map fun x => x.1).Sublist (l.zipIdx.map fun x => x.1) := List.Sublist.map _ List.filter_sublist
  have e : l.zipIdx.map (fun x => x.1) = l := List.zipIdx_map_fst 0 l
  rw [e] at h
  exact h
theorem pick_len {α : Type} (q : Nat → Bool) (l : List α) (i : Nat) : (pick q (l.take i)).length ≤ l.length := by
  have h := (pick_sub q (l.take i)).length_le
  rw [List.length_take] at h
  omega
theorem LotsAt.pick {C : Addr} {H : Hp} {as : List Addr} {ls : List Kh432.Lot} (q : Nat → Bool) (h : LotsAt C H as ls) : LotsAt C H (Lc.pick q as) (Lc.pick q ls) := by
  have key : ∀ i, i ≤ as.length → LotsAt C H (Lc.pick q (as.take i)) (Lc.pick q (ls.take i)) := by
    intro i
    induction i with
    | zero => exact fun _ => LotsAt.nil
    | succ i ih =>
      intro hi
      have hl : i < ls.length := by rw [← h.len]; omega
      have ha : as[i]? = some (as[i]'(by omega)) := List.getElem?_eq_getElem (by omega)
      have hb : ls[i]? = some ls[i] := List.getElem?_eq_getElem hl
      rw [pick_more q ha, pick_more q hb]
      by_cases c : q i = true
      · rw [if_pos c, if_pos c]
        exact (ih (by omega)).snoc (h.lot i _ _ ha hb)
      · rw [if_neg c, if_neg c, List.append_nil, List.append_nil]
        exact ih (by omega)
  have z := key as.length (Nat.le_refl _)
  rw [List.take_length, h.len, List.take_length] at z
  exact z
/-- all but p stays -/
def Sx (p : Addr) (H H' : Hp) : Prop := ∀ b o, H b = some o → b ≠ p → H' b = some o
theorem Sx.of {p : Addr} {H H' : Hp} (s : Same H H') : Sx p H H' := fun b o e _ => s b o e
theorem Sx.trans {p : Addr} {H H1 H2 : Hp} (a : Sx p H H1) (b : Sx p H1 H2) : Sx p H H2 := fun c o e n => b c o (a c o e n) n
theorem Sx.upd {p : Addr} {H H' : Hp} {o : HO} (s : Sx p H H') : Sx p H (L2.upd H' p o) := fun b u e n => by
  rw [upd_ne n]
  exact s b u e n
theorem Sx.free {p b : Addr} {H H' : Hp} (s : Sx p H H') (hp : H' p ≠ none) (h : H' b = none) : H b = none := by
  cases e : H b with
  | none => rfl
  | some o =>
    have n : b ≠ p := fun z => hp (z ▸ h)
    rw [s b o e n] at h
    cases h
theorem lots_not {C CM : Addr} {H : Hp} {as : List Addr} {ls : List Kh432.Lot} {p L D B dx : Addr} {n : Nat} (h : LotsAt C H as ls) (hp : H p = some (.ins CM dx (mF L D B n))) : p ∉ as := fun hm => by
  obtain ⟨dy, l, e⟩ := h.mem hm
  rw [hp] at e
  have e1 := congrArg (fun o => match o with | HO.ins _ _ fs => fs.length | _ => 0) (Option.some.inj e)
  exact absurd e1 (by show ¬ (4 : Nat) = 5; decide)
theorem LotsAt.sx {C : Addr} {H H' : Hp} {as : List Addr} {ls : List Kh432.Lot} {p : Addr} (h : LotsAt C H as ls) (s : Sx p H H') (hp : p ∉ as) : LotsAt C H' as ls := by
  refine ⟨h.len, fun i a l h1 h2 => ?_⟩
  obtain ⟨dx, e⟩ := h.lot i a l h1 h2
  exact ⟨dx, s _ _ e fun z => hp (z ▸ List.mem_of_getElem? h1)⟩

abbrev sBuy : Stmt := top 17
theorem scBuy : FnScope ["market", "mask", "some", "chosen", "one", "other", "number", "lot"] ["market", "mask"] (defScope sBuy) := ⟨rfl, rfl, rfl, by decide +kernel, rfl, by decide +kernel, by decide +kernel⟩
/-- a market changed at p: its new addresses are old ones or new -/
def Changed (C CM : Addr) (H : Hp) (fp : List Addr) (p : Addr) (m' : Kh432.Market) (H' : Hp) : Prop := ∃ fp', Mkt C CM H' p m' fp' ∧ (∀ b ∈ fp', b ∈ fp ∨ H b = none) ∧ (∀ b o, H b = some o → b ∉ fp → H' b = some o) ∧ ∀ b o, H b = some o → ∃ o', H' b = some o'
def spBuy (C CM : Addr) : Sp := fun vs H Q _ => ∃ p m fp mask, vs = [.ref p, natV mask] ∧ Mkt C CM H p m fp ∧ Good m ∧ ∀ H', Changed C CM H fp p (Kh432.afterPurchase m mask) H' → Q (natV (Kh432.totalCost m mask)) H'
section
variable {C CM : Addr} {H H1 H2 : Hp} {fp : List Addr} {p r : Addr} {m m' : Kh432.Market} {o : HO}
theorem Changed.of (M : Mkt C CM H p m fp) (s : Same H H1) : Changed C CM H fp p m H1 := ⟨fp, M.same s, fun _ hb => .inl hb, fun b o h _ => s b o h, fun b o h => ⟨o, s b o h⟩⟩
theorem Changed.pre (s : Same H H1) (c : Changed C CM H1 fp p m' H2) : Changed C CM H fp p m' H2 := by
  obtain ⟨fp', h1, h2, h3, h4⟩ := c
  exact ⟨fp', h1, fun b hb => (h2 b hb).imp id s.free, fun b o h n => h3 b o (s b o h) n, fun b o h => h4 b o (s b o h)⟩
theorem Changed.same (c : Changed C CM H fp p m' H1) (s : Same H1 H2) : Changed C CM H fp p m' H2 := by
  obtain ⟨fp', h1, h2, h3, h4⟩ := c
  refine ⟨fp', h1.same s, h2, fun b o h n => s b o (h3 b o h n), fun b o h => ?_⟩
  obtain ⟨o', e⟩ := h4 b o h
  exact ⟨o', s b o' e⟩
theorem Changed.free (c : Changed C CM H fp p m' H1) (n : H1 r = none) : H r = none := by
  obtain ⟨fp', h1, h2, h3, h4⟩ := c
  cases e : H r with
  | none => rfl
  | some o =>
    obtain ⟨o', e'⟩ := h4 r o e
    rw [n] at e'
    cases e'
end
theorem bought_is {m : Kh432.Market} (h : m.bought.length = 3) (mask : Nat) : ((m.bought.zip (byKind (lotsIn m mask))).map fun p => natV (p.1 + p.2)) = (Kh432.afterPurchase m mask).bought.map natV := by
  obtain ⟨a, b, c, e⟩ := three h
  unfold Kh432.afterPurchase
  simp only [byKind, kind_is, Kh432.kindCount, e]
  rfl
theorem after_lots (m : Kh432.Market) (mask : Nat) : (Kh432.afterPurchase m mask).lots = pick (fun i => !Kh432.isMember mask i) m.lots := rfl
section
variable {P : Program} {w : World} {K : PySem.W.Frag} {mg : Str → Option Value} {base : Heap} {C CM : Addr}
theorem ok_buy {f : Addr} {fd : FuncData} (F : Fun K "buy" "buy" sBuy f fd) (T : Txt K mg C CM) (D1 : Def P w K mg base "lots_in" 2 ["market", "mask"] (spIn C CM)) (D2 : Def P w K mg base "shortfall" 3 ["lots", "demand"] (spShort K C))
    (D3 : Def P w K mg base "units_by_kind" 2 ["lots"] (spBy K C)) (D4 : Def P w K mg base "cost_of" 1 ["lots"] (spL1 K C costOf)) (D5 : Def P w K mg base "members" 1 ["mask", "many"] spMem) : FnOk P w K mg base CX0 4 f fd ["market", "mask"] (spBuy C CM) := by
  refine F.ok scBuy (fun vs H Q E h => ?_) (fun cdv A outer s H vs Q E hr h => ?_)
  · obtain ⟨p, m, fp, mask, rfl, _⟩ := h
    rfl
  · obtain ⟨p, m, fp, mask, rfl, M0, hg, k⟩ := h
    have hr2 : Room 2 _ := hr.mono (by decide)
    have hr1 : Room 1 _ := hr.mono (by decide)
    have hn := hg.1
    have MM := M0
    obtain ⟨L, DD, B, as, rfl, M⟩ := M0
    have hlen : (lotsIn m mask).length ≤ 1000 := Nat.le_trans (lotsIn_length m mask) (by omega)
    refine ⟨_, pss_cons (ps_set (i := 2) scBuy.nd rfl (.inl rfl) (pe_def D1 hr2 rfl (pa_cons (pv 0) (pa_cons (pv 1) pa_nil))))
      (pss_cons (ps_fld (pv 0) (pe_def D2 hr rfl (pa_cons (pv 2) (pa_cons (pe_fld (pv 0) rfl) pa_nil))) rfl)
      (pss_cons (ps_fld (pv 0) (pe_lc (own := [("one", 4), ("other", 5)]) (g := gTup K 2 (gCons (gName 4) (gCons (gName 5) gNil))) (tt := tYes) (te := tOp (rI0 fun i j => .int (i + j)) (tVar 4) (tVar 5)) rfl scBuy.nd
          (pi_zip (by rfl) T.zip (pa_cons (pe_fld (pv 0) rfl) (pa_cons (pe_def D3 hr2 rfl (pa_cons (pv 2) pa_nil)) pa_nil)))
          (blkOk_by (N := ["market", "mask", "some", "chosen", "one", "other", "number", "lot"]) (sc := defScope sBuy) (by decide +kernel))
          (fun _ _ _ _ _ => pg_tup rfl (pgs_cons (pg_name (i := 4) scBuy.nd rfl (.inl rfl)) (pgs_cons (pg_name (i := 5) scBuy.nd rfl (.inl rfl)) pgs_nil))) (fun _ _ _ _ _ => pts_nil)
          (fun _ _ _ _ _ => pe_op op_add (pv 4) (pv 5))) rfl)
      (pss_cons (ps_fldaug (pv 0) (pe_def D4 hr1 rfl (pa_cons (pv 2) pa_nil)) in_add)
      (pss_cons (ps_set (i := 3) scBuy.nd rfl (.inr rfl) (pe_def D5 hr1 rfl (pa_cons (pv 1) (pa_cons (pe_callB call_len_seq (by rfl) T.len PySem.boot_len (pa_cons (pe_fld (pv 0) rfl) pa_nil)) pa_nil))))
      (pss_cons (ps_fld (pv 0) (pe_lc (own := [("number", 6), ("lot", 7)]) (g := gTup K 2 (gCons (gName 6) (gCons (gName 7) gNil))) (tt := tTest (tOp (rIn K true) (tVar 6) (tVar 3))) (te := tVar 7) rfl scBuy.nd
          (pi_enum (by rfl) T.enum (pa_cons (pe_fld (pv 0) rfl) pa_nil))
          (blkOk_by (N := ["market", "mask", "some", "chosen", "one", "other", "number", "lot"]) (sc := defScope sBuy) (by decide +kernel))
          (fun _ _ _ _ _ => pg_tup rfl (pgs_cons (pg_name (i := 6) scBuy.nd rfl (.inl rfl)) (pgs_cons (pg_name (i := 7) scBuy.nd rfl (.inl rfl)) pgs_nil)))
          (fun _ _ _ _ _ => pts_one (pt_cmpR op_notIn_seq (pv 6) (pv 3) rfl)) (fun _ _ _ _ _ => pv 7)) rfl)
      (pss_one (ps_ret (pe_def D4 hr1 rfl (pa_cons (pv 2) pa_nil))))))))), ?_⟩
    -- some = lots_in(market, mask)
    refine ⟨_, rfl, _, rfl, p, m, _, mask, rfl, MM, by omega, fun H1 S bs s1 nS hS hbs => ?_⟩
    have M1 := M.same s1
    obtain ⟨dx1, hp1⟩ := M1.ins
    have pbs := lots_not hbs hp1
    -- market.demand = shortfall(some, market.demand)
    refine ⟨_, rfl, _, rfl, p, CM, dx1, _, _, rfl, hp1, T.cm, T.mD, mF_dem _ _ _ _, S, bs, lotsIn m mask, DD, m.demand, rfl, SqL.of hS, hbs, hlen, SqL.of M1.dem, fun H2 D' s2 nD hD' => ?_⟩
    have hp2 := s2 _ _ hp1
    refine ⟨_, rfl, p, CM, dx1, _, rfl, hp2, T.cm, T.mD, (by show 4 < 1000; decide), ?_⟩
    rw [mF_putD]
    -- market.bought
    have pD : D' ≠ p := (ne_of_none hp1 nD).symm
    have x3 : Sx p H1 (upd H2 p (.ins CM dx1 (mF L D' B m.spent))) := (Sx.of s2).upd
    have hp3 : upd H2 p (.ins CM dx1 (mF L D' B m.spent)) p = some (.ins CM dx1 (mF L D' B m.spent)) := upd_same
    have hD3 : upd H2 p (.ins CM dx1 (mF L D' B m.spent)) D' = some (.lst ((shortL (lotsIn m mask) m.demand).map natV)) := by rw [upd_ne pD]; exact hD'
    generalize upd H2 p (.ins CM dx1 (mF L D' B m.spent)) = H3 at *
    have pS : S ≠ p := ne_of hS hp1 (by intro z; cases z)
    have pL : L ≠ p := ne_of M1.lst hp1 (by intro z; cases z)
    have pB : B ≠ p := ne_of M1.bgt hp1 (by intro z; cases z)
    have hS3 := x3 _ _ hS pS
    have hbs3 := hbs.sx x3 pbs
    have hB3 := x3 _ _ M1.bgt pB
    refine ⟨_, rfl, p, CM, dx1, _, _, rfl, hp3, T.cm, T.mB, mF_bgt _ _ _ _, _, rfl, S, bs, lotsIn m mask, rfl, SqL.of hS3, hbs3, hlen, fun H4 r4 s4 n4 l4 => ?_⟩
    refine ⟨B, r4, _, _, rfl, SqL.of (s4 _ _ hB3), SqL.of l4, lc_zip (i := 4) (j := 5) (f := fun x y => natV (x + y)) (SqL.of (s4 _ _ hB3)) (SqL.of l4) (by rw [hg.2.2.1]; decide) (by decide) ?_ ?_⟩
    · intro H' x y R s' q
      exact ⟨_, rfl, _, rfl, _, _, rfl, rfl, q H' (Same.refl _)⟩
    intro B' H5 s5 nB hB'
    rw [bought_is hg.2.2.1] at hB'
    have hp5 := s5 _ _ (s4 _ _ hp3)
    refine ⟨_, rfl, p, CM, dx1, _, rfl, hp5, T.cm, T.mB, (by show 4 < 1000; decide), ?_⟩
    rw [mF_putB]
    have hD5 := s5 _ _ (s4 _ _ hD3)
    have pB' : B' ≠ p := (ne_of_none (s4 _ _ hp3) nB).symm
    have dB' : D' ≠ B' := ne_of_none (s4 _ _ hD3) nB
    have x6 : Sx p H1 (upd H5 p (.ins CM dx1 (mF L D' B' m.spent))) := (x3.trans ((Sx.of s4).trans (Sx.of s5))).upd
    have hp6 : upd H5 p (.ins CM dx1 (mF L D' B' m.spent)) p = some (.ins CM dx1 (mF L D' B' m.spent)) := upd_same
    have hD6 : upd H5 p (.ins CM dx1 (mF L D' B' m.spent)) D' = some (.lst ((shortL (lotsIn m mask) m.demand).map natV)) := by rw [upd_ne pD]; exact hD5
    have hB6 : upd H5 p (.ins CM dx1 (mF L D' B' m.spent)) B' = some (.lst ((Kh432.afterPurchase m mask).bought.map natV)) := by rw [upd_ne pB']; exact hB'
    generalize upd H5 p (.ins CM dx1 (mF L D' B' m.spent)) = H6 at *
    -- market.spent += cost_of(some)
    have hS6 := x6 _ _ hS pS
    have hbs6 := hbs.sx x6 pbs
    refine ⟨_, rfl, p, CM, dx1, _, _, rfl, hp6, T.cm, T.mS, mF_spent _ _ _ _, _, rfl, S, bs, lotsIn m mask, rfl, SqL.of hS6, hbs6, hlen, fun H7 s7 => ?_⟩
    refine ⟨_, _, rfl, rfl, dx1, _, s7 _ _ hp6, (by show 4 < 1000; decide), ?_⟩
    have ec : V.int (((m.spent : Nat) : Int) + ((costOf (lotsIn m mask) : Nat) : Int)) = natV (m.spent + Kh432.totalCost m mask) := by
      rw [cost_is]
      unfold natV
      congr 1
    rw [ec, mF_putS]
    have x8 : Sx p H1 (upd H7 p (.ins CM dx1 (mF L D' B' (m.spent + Kh432.totalCost m mask)))) := (x6.trans (Sx.of s7)).upd
    have hp8 : upd H7 p (.ins CM dx1 (mF L D' B' (m.spent + Kh432.totalCost m mask))) p = some (.ins CM dx1 (mF L D' B' (m.spent + Kh432.totalCost m mask))) := upd_same
    have hD8 : upd H7 p (.ins CM dx1 (mF L D' B' (m.spent + Kh432.totalCost m mask))) D' = some (.lst ((shortL (lotsIn m mask) m.demand).map natV)) := by rw [upd_ne pD]; exact s7 _ _ hD6
    have hB8 : upd H7 p (.ins CM dx1 (mF L D' B' (m.spent + Kh432.totalCost m mask))) B' = some (.lst ((Kh432.afterPurchase m mask).bought.map natV)) := by rw [upd_ne pB']; exact s7 _ _ hB6
    generalize upd H7 p (.ins CM dx1 (mF L D' B' (m.spent + Kh432.totalCost m mask))) = H8 at *
    -- chosen = members(mask, len(market.lots))
    have hL8 := x8 _ _ M1.lst pL
    refine ⟨_, rfl, _, rfl, p, CM, dx1, _, _, rfl, hp8, T.cm, T.mL, mF_lots _ _ _ _, _, _, rfl, .inl (SqL.of hL8), mask, m.lots.length, ?_, by omega, fun H9 ch s9 n9 l9 => ?_⟩
    · rw [List.length_map, M1.len]
      rfl
    -- market.lots = [..]
    have hp9 := s9 _ _ hp8
    have hL9 := s9 _ _ hL8
    refine ⟨_, rfl, p, CM, dx1, _, _, rfl, hp9, T.cm, T.mL, mF_lots _ _ _ _, L, _, rfl, SqL.of hL9, fun L' nL => ?_⟩
    refine lc_it (walk_enum (K := K) (a := L) (xs := as.map V.ref)) (fun j H' => Same H9 H' ∧ H' L' = some (.lst ((pick (fun i => !Kh432.isMember mask i) (as.take j)).map V.ref))) ⟨same_new nL, upd_same⟩ (fun j H' _ h => SqL.of (h.1 _ _ hL9)) ?_ ?_
    · rintro j x H' H'' hj ⟨sm, hl⟩ ⟨TT, x', y', rfl, hT, rfl, hx, hy⟩
      cases hx
      obtain ⟨a, ha, rfl⟩ := mapRef hy
      have hjl : j < m.lots.length := by rw [← M1.len]; rw [List.length_map] at hj; exact hj
      have sT := same_upd (o := .tup [V.int (j : Nat), V.ref a]) sm (sm.free hT)
      have hlT : upd H' TT (.tup [V.int (j : Nat), V.ref a]) L' = some (.lst ((pick (fun i => !Kh432.isMember mask i) (as.take j)).map V.ref)) := by rw [upd_ne (ne_of_none hl hT)]; exact hl
      refine ⟨TT, _, rfl, SqT.of upd_same, rfl, _, _, rfl, _, _, rfl, rfl, wipe_two _ (by decide) _ _, _, rfl, _, rfl, ch, _, rfl, .inl (SqL.of (sT _ _ l9)), rfl, flat_nat _, _, rfl, ?_⟩
      have e : (if true = true then !inV (V.int (j : Nat)) ((mem mask m.lots.length).map natV) else inV (V.int (j : Nat)) ((mem mask m.lots.length).map natV)) = !Kh432.isMember mask j := by
        rw [if_pos rfl]
        have z := inV_nat j (mem mask m.lots.length)
        unfold natV at z
        unfold natV
        rw [z, mem_bit mask hjl]
      refine if_of e (fun c => ?_) (fun c => ?_)
      · refine ⟨_, rfl, _, hlT, ?_, same_upd sT nL, ?_⟩
        · rw [List.length_map]
          have := pick_len (fun i => !Kh432.isMember mask i) as j
          have := M1.len
          exact line' _ (by omega)
        · rw [upd_same, pick_more _ ha, if_pos c, List.map_append]
          rfl
      · refine ⟨sT, ?_⟩
        rw [hlT, pick_more _ ha, if_neg (by rw [c]; decide), List.append_nil]
    rintro H10 ⟨s10, hL'⟩
    rw [List.length_map, List.take_length] at hL'
    have hp10 := s10 _ _ hp9
    refine ⟨_, rfl, p, CM, dx1, _, rfl, hp10, T.cm, T.mL, (by show 4 < 1000; decide), ?_⟩
    rw [mF_putL]
    have pL' : L' ≠ p := (ne_of_none hp9 nL).symm
    have x11 : Sx p H1 (upd H10 p (.ins CM dx1 (mF L' D' B' (m.spent + Kh432.totalCost m mask)))) := (x8.trans ((Sx.of s9).trans (Sx.of s10))).upd
    have hp11 : upd H10 p (.ins CM dx1 (mF L' D' B' (m.spent + Kh432.totalCost m mask))) p = some (.ins CM dx1 (mF L' D' B' (m.spent + Kh432.totalCost m mask))) := upd_same
    have hD11 : upd H10 p (.ins CM dx1 (mF L' D' B' (m.spent + Kh432.totalCost m mask))) D' = some (.lst ((shortL (lotsIn m mask) m.demand).map natV)) := by rw [upd_ne pD]; exact s10 _ _ (s9 _ _ hD8)
    have hB11 : upd H10 p (.ins CM dx1 (mF L' D' B' (m.spent + Kh432.totalCost m mask))) B' = some (.lst ((Kh432.afterPurchase m mask).bought.map natV)) := by rw [upd_ne pB']; exact s10 _ _ (s9 _ _ hB8)
    have hL11 : upd H10 p (.ins CM dx1 (mF L' D' B' (m.spent + Kh432.totalCost m mask))) L' = some (.lst ((pick (fun i => !Kh432.isMember mask i) as).map V.ref)) := by rw [upd_ne pL']; exact hL'
    generalize upd H10 p (.ins CM dx1 (mF L' D' B' (m.spent + Kh432.totalCost m mask))) = H11 at *
    -- return cost_of(some)
    refine ⟨_, rfl, S, bs, lotsIn m mask, rfl, SqL.of (x11 _ _ hS pS), hbs.sx x11 pbs, hlen, fun H12 s12 => ?_⟩
    have x12 : Sx p H H12 := (Sx.of s1).trans (x11.trans (Sx.of s12))
    have x1 : Sx p H1 H12 := x11.trans (Sx.of s12)
    have pas := lots_not M1.lots hp1
    have q := k H12
    rw [← cost_is] at q
    refine q ⟨fpOf p L' D' B' (pick (fun i => !Kh432.isMember mask i) as), ⟨L', D', B', _, rfl, ⟨⟨dx1, s12 _ _ hp11⟩, s12 _ _ hL11, ?_, ?_, s12 _ _ hB11, (pick_sub _ as).nodup M.nd, (ne_of_none (s9 _ _ hD8) nL).symm, (ne_of_none (s9 _ _ hB8) nL).symm, dB', fun z => pas ((pick_sub _ as).subset z)⟩⟩, ?_, ?_, ?_⟩
    · rw [after_lots]
      exact (M1.lots.sx x1 pas).pick _
    · have e : (Kh432.afterPurchase m mask).demand = shortL (lotsIn m mask) m.demand := (short_is hg.2.1 mask).symm
      rw [e]
      exact s12 _ _ hD11
    · have np1 : H1 p ≠ none := by rw [hp1]; intro z; cases z
      have fr : ∀ b, H1 b = none → H b = none := fun b z => s1.free z
      intro b hb
      unfold fpOf at hb ⊢
      simp only [List.mem_cons] at hb ⊢
      have np3 : H3 p ≠ none := by rw [hp3]; intro z; cases z
      have np4 : H4 p ≠ none := by rw [s4 _ _ hp3]; intro z; cases z
      have np9 : H9 p ≠ none := by rw [hp9]; intro z; cases z
      rcases hb with rfl | rfl | rfl | rfl | hb
      · exact .inl (.inl rfl)
      · exact .inr (fr _ ((x8.trans (Sx.of s9)).free np9 nL))
      · exact .inr (fr _ nD)
      · exact .inr (fr _ ((x3.trans (Sx.of s4)).free np4 nB))
      · exact .inl (.inr (.inr (.inr (.inr ((pick_sub _ as).subset hb)))))
    · intro b o e hb
      refine x12 b o e fun z => hb ?_
      unfold fpOf
      simp [z]
    · intro b o e
      by_cases z : b = p
      · subst z
        exact ⟨_, s12 _ _ hp11⟩
      · exact ⟨o, x12 b o e z⟩
end
end Lc
/-! part LcI -/
namespace Lc
open PySem PySem.Spec PyProof.Rows L2

abbrev sHas : Stmt := top 32
theorem scHas : FnScope ["market", "number"] ["market", "number"] (defScope sHas) := ⟨rfl, rfl, rfl, by decide +kernel, rfl, by decide +kernel, by decide +kernel⟩
def spHas (C CM : Addr) : Sp := fun vs H Q _ => ∃ p m fp n, vs = [.ref p, natV n] ∧ Mkt C CM H p m fp ∧ Q (.bl (decide (n < m.lots.length))) H
abbrev sIsSet : Stmt := top 33
theorem scIsSet : FnScope ["market", "mask"] ["market", "mask"] (defScope sIsSet) := ⟨rfl, rfl, rfl, by decide +kernel, rfl, by decide +kernel, by decide +kernel⟩
def spIsSet (C CM : Addr) : Sp := fun vs H Q _ => ∃ p m fp mask, vs = [.ref p, natV mask] ∧ Mkt C CM H p m fp ∧ m.lots.length ≤ 7 ∧ Q (.bl (decide (mask < 2 ^ m.lots.length))) H
abbrev sAre : Stmt := top 34
theorem scAre : FnScope ["number"] ["number"] (defScope sAre) := ⟨rfl, rfl, rfl, by decide +kernel, rfl, by decide +kernel, by decide +kernel⟩
def spAre : Sp := fun vs H Q _ => ∃ n, vs = [natV n] ∧ Q (.bl (Kh432.isBuyerCount n)) H
abbrev sIdx : Stmt := top 35
theorem scIdx : FnScope ["market", "mask"] ["market", "mask"] (defScope sIdx) := ⟨rfl, rfl, rfl, by decide +kernel, rfl, by decide +kernel, by decide +kernel⟩
def spIdx (C CM : Addr) : Sp := fun vs H Q _ => ∃ p m fp mask, vs = [.ref p, natV mask] ∧ Mkt C CM H p m fp ∧ m.lots.length ≤ 7 ∧ ∀ H' r, Same H H' → H r = none → H' r = some (.lst ((Kh432.members m mask).map natV)) → Q (.ref r) H'
abbrev sPlanAns : Stmt := top 36
theorem scPlanAns : FnScope ["market", "mask"] ["market", "mask"] (defScope sPlanAns) := ⟨rfl, rfl, rfl, by decide +kernel, rfl, by decide +kernel, by decide +kernel⟩
def ansV (r : Kh432.Result) : List V := (res r).map V.int
def spPlanAns (C CM : Addr) : Sp := fun vs H Q _ => ∃ p m fp o, vs = [.ref p, .int (enc o)] ∧ Mkt C CM H p m fp ∧ m.lots.length ≤ 7 ∧ ∀ H' r, Same H H' → H r = none → H' r = some (.lst (ansV (Kh432.planResult m o))) → Q (.ref r) H'
theorem ans_single (x : Int) : ansV (Kh432.single x) = [.int x] := rfl
theorem ans_values (x : Nat) (l : List Nat) : ansV (Kh432.withValues x l) = natV x :: l.map natV := by
  unfold ansV res Kh432.withValues
  rw [List.map_cons, List.map_map]
  rfl
theorem members_len {m : Kh432.Market} (h : m.lots.length ≤ 7) (mask : Nat) : (Kh432.members m mask).length ≤ 7 := Nat.le_trans (mem_length mask m.lots.length) h
section
variable {P : Program} {w : World} {K : PySem.W.Frag} {mg : Str → Option Value} {base : Heap} {C CM : Addr}
theorem ok_has {f : Addr} {fd : FuncData} (F : Fun K "has_lot" "has_lot" sHas f fd) (T : Txt K mg C CM) : FnOk P w K mg base CX0 1 f fd ["market", "number"] (spHas C CM) := by
  refine F.ok scHas (fun vs H Q E h => ?_) (fun cdv A outer s H vs Q E hr h => ?_)
  · obtain ⟨p, m, fp, n, rfl, _⟩ := h
    rfl
  · obtain ⟨p, m, fp, n, rfl, ⟨L, DD, B, as, rfl, M⟩, k⟩ := h
    obtain ⟨dx, hp⟩ := M.ins
    refine ⟨_, pss_one (ps_ret (pe_cmpR op_lt (pv 1) (pe_callB call_len_seq (by rfl) T.len PySem.boot_len (pa_cons (pe_fld (pv 0) rfl) pa_nil)) (nomark _))), ?_⟩
    refine ⟨_, rfl, _, rfl, p, CM, dx, _, _, rfl, hp, T.cm, T.mL, mF_lots _ _ _ _, _, _, rfl, .inl (SqL.of M.lst), _, _, rfl, rfl, ?_⟩
    rw [← dec_lt, ← M.len] at k
    show Q (.bl (decide ((n : Int) < (((as.map V.ref).length : Nat) : Int)))) H
    rw [List.length_map]
    exact k
theorem ok_isSet {f : Addr} {fd : FuncData} (F : Fun K "is_set" "is_set" sIsSet f fd) (T : Txt K mg C CM) (D : Def P w K mg base "bit_of" 1 ["number"] spBit) : FnOk P w K mg base CX0 2 f fd ["market", "mask"] (spIsSet C CM) := by
  refine F.ok scIsSet (fun vs H Q E h => ?_) (fun cdv A outer s H vs Q E hr h => ?_)
  · obtain ⟨p, m, fp, n, rfl, _⟩ := h
    rfl
  · obtain ⟨p, m, fp, n, rfl, ⟨L, DD, B, as, rfl, M⟩, hn, k⟩ := h
    obtain ⟨dx, hp⟩ := M.ins
    refine ⟨_, pss_one (ps_ret (pe_cmpR op_lt (pv 1) (pe_def D hr rfl (pa_cons (pe_callB call_len_seq (by rfl) T.len PySem.boot_len (pa_cons (pe_fld (pv 0) rfl) pa_nil)) pa_nil)) (nomark _))), ?_⟩
    refine ⟨_, rfl, _, rfl, p, CM, dx, _, _, rfl, hp, T.cm, T.mL, mF_lots _ _ _ _, _, _, rfl, .inl (SqL.of M.lst), m.lots.length, ?_, by omega, _, _, rfl, rfl, ?_⟩
    · rw [List.length_map, M.len]
      rfl
    · rw [← dec_lt] at k
      exact k
theorem ok_are {f : Addr} {fd : FuncData} (F : Fun K "are_buyers" "are_buyers" sAre f fd) (T : Txt K mg C CM) : FnOk P w K mg base CX0 1 f fd ["number"] spAre := by
  refine F.ok scAre (fun vs H Q E h => ?_) (fun cdv A outer s H vs Q E hr h => ?_)
  · obtain ⟨n, rfl, _⟩ := h
    rfl
  · obtain ⟨n, rfl, k⟩ := h
    refine ⟨_, pss_one (ps_ret (pe_chain op_le op_le pe_int (pv 0) (pe_const T.mostBuyers rfl))), ?_⟩
    unfold Kh432.isBuyerCount at k
    refine ⟨_, rfl, _, _, rfl, rfl, _, rfl, ?_⟩
    refine if_of (dec_le 1 n) (fun c => ?_) (fun c => ?_)
    · rw [c, Bool.true_and, ← dec_le] at k
      exact ⟨_, _, rfl, rfl, k⟩
    · rw [c, Bool.false_and] at k
      exact k
theorem ok_idx {f : Addr} {fd : FuncData} (F : Fun K "indices" "indices" sIdx f fd) (T : Txt K mg C CM) (D : Def P w K mg base "members" 1 ["mask", "many"] spMem) : FnOk P w K mg base CX0 2 f fd ["market", "mask"] (spIdx C CM) := by
  refine F.ok scIdx (fun vs H Q E h => ?_) (fun cdv A outer s H vs Q E hr h => ?_)
  · obtain ⟨p, m, fp, n, rfl, _⟩ := h
    rfl
  · obtain ⟨p, m, fp, mask, rfl, ⟨L, DD, B, as, rfl, M⟩, hn, k⟩ := h
    obtain ⟨dx, hp⟩ := M.ins
    refine ⟨_, pss_one (ps_ret (pe_def D hr rfl (pa_cons (pv 1) (pa_cons (pe_callB call_len_seq (by rfl) T.len PySem.boot_len (pa_cons (pe_fld (pv 0) rfl) pa_nil)) pa_nil)))), ?_⟩
    refine ⟨_, rfl, _, rfl, p, CM, dx, _, _, rfl, hp, T.cm, T.mL, mF_lots _ _ _ _, _, _, rfl, .inl (SqL.of M.lst), mask, m.lots.length, ?_, by omega, k⟩
    rw [List.length_map, M.len]
    rfl
theorem ok_planAns {f : Addr} {fd : FuncData} (F : Fun K "plan_answer" "plan_answer" sPlanAns f fd) (D1 : Def P w K mg base "cost_of" 1 ["lots"] (spL1 K C costOf)) (D2 : Def P w K mg base "lots_in" 2 ["market", "mask"] (spIn C CM))
    (D3 : Def P w K mg base "indices" 2 ["market", "mask"] (spIdx C CM)) : FnOk P w K mg base CX0 3 f fd ["market", "mask"] (spPlanAns C CM) := by
  refine F.ok scPlanAns (fun vs H Q E h => ?_) (fun cdv A outer s H vs Q E hr h => ?_)
  · obtain ⟨p, m, fp, o, rfl, _⟩ := h
    rfl
  · obtain ⟨p, m, fp, o, rfl, M, hn, k⟩ := h
    have hr1 : Room 1 _ := hr.mono (by decide)
    refine ⟨_, pss_cons (ps_if (pt_cmpR op_lt (pv 1) pe_int (nomark _)) (pss_one (ps_ret (pe_lst (pa_cons (pe_un un_neg pe_int) pa_nil)))) pss_nil)
      (pss_one (ps_ret (pe_op op_cat (pe_lst (pa_cons (pe_def D1 hr1 rfl (pa_cons (pe_def D2 hr rfl (pa_cons (pv 0) (pa_cons (pv 1) pa_nil))) pa_nil)) pa_nil)) (pe_def D3 hr rfl (pa_cons (pv 0) (pa_cons (pv 1) pa_nil)))))), ?_⟩
    refine ⟨_, rfl, _, _, rfl, rfl, _, rfl, ?_⟩
    refine if_of (enc_neg o) (fun c => ?_) (fun c => ?_)
    · cases o with
      | some b => cases c
      | none =>
        refine ⟨_, rfl, (by show 1 ≤ sizeLine; decide), fun r hr' => k _ r (same_new hr') hr' ?_⟩
        rw [upd_same]
        rfl
    · cases o with
      | none => cases c
      | some b =>
        refine ⟨_, rfl, _, rfl, p, m, fp, b, rfl, M, by omega, fun H1 r1 bs s1 n1 l1 hbs => ⟨r1, bs, lotsIn m b, rfl, SqL.of l1, hbs, Nat.le_trans (lotsIn_length m b) (by omega), fun H2 s2 => ⟨(by show 1 ≤ sizeLine; decide), fun r3 n3 => ?_⟩⟩⟩
        have s3 := same_upd (o := .lst [natV (costOf (lotsIn m b))]) (s1.trans s2) ((s1.trans s2).free n3)
        refine ⟨_, rfl, _, rfl, p, m, fp, b, rfl, M.same s3, hn, fun H4 r4 s4 n4 l4 => ?_⟩
        have h3 := s4 _ _ (upd_same (H := H2) (a := r3) (o := .lst [natV (costOf (lotsIn m b))]))
        refine ⟨r3, r4, _, _, rfl, rfl, h3, l4, ?_, fun r5 n5 => ?_⟩
        · rw [List.length_map]
          have := members_len hn b
          exact line _ (by rw [List.length_singleton]; omega)
        · have s04 := s3.trans s4
          refine k _ r5 (same_upd s04 (s04.free n5)) (s04.free n5) ?_
          rw [upd_same]
          show _ = some (HO.lst (ansV (Kh432.withValues (Kh432.totalCost m b) (Kh432.members m b))))
          rw [ans_values, cost_is]
          rfl
end
end Lc
/-! part LcJ -/
namespace Lc
open PySem PySem.Spec PyProof.Rows L2

/-! ### the deeds: each does what the specification's operation does -/
def spDeed (K : PySem.W.Frag) (C CM : Addr) (c : Nat) : Sp := fun vs H Q _ => ∃ p a m fp xs, vs = [.ref p, .ref a] ∧ Mkt C CM H p m fp ∧ Good m ∧ SqL K H a (xs.map natV) ∧ xs.length = arity c ∧
  ∀ H' r, Changed C CM H fp p (Kh432.apply m (callN c xs)).1 H' → H r = none → H' r = some (.lst (ansV (Kh432.apply m (callN c xs)).2)) → Q (.ref r) H'
theorem fin_same {C CM : Addr} {H : Hp} {p : Addr} {m : Kh432.Market} {fp : List Addr} {c : Nat} {xs : List Nat} {Q : VK} {R : Kh432.Result} (M : Mkt C CM H p m fp)
    (k : ∀ H' r, Changed C CM H fp p (Kh432.apply m (callN c xs)).1 H' → H r = none → H' r = some (.lst (ansV (Kh432.apply m (callN c xs)).2)) → Q (.ref r) H') (e : Kh432.apply m (callN c xs) = (m, R)) :
    ∀ H' r, Same H H' → H r = none → H' r = some (.lst (ansV R)) → Q (.ref r) H' := by
  rw [e] at k
  exact fun H' r s n l => k H' r (.of M s) n l
/-- a new list behind it -/
theorem fin_new {C CM : Addr} {H : Hp} {p : Addr} {m : Kh432.Market} {fp : List Addr} {c : Nat} {xs : List Nat} {Q : VK} {R : Kh432.Result} (M : Mkt C CM H p m fp)
    (k : ∀ H' r, Changed C CM H fp p (Kh432.apply m (callN c xs)).1 H' → H r = none → H' r = some (.lst (ansV (Kh432.apply m (callN c xs)).2)) → Q (.ref r) H') (e : Kh432.apply m (callN c xs) = (m, R)) :
    ∀ H1 r, Same H H1 → H1 r = none → Q (.ref r) (upd H1 r (.lst (ansV R))) := fun H1 r s n => fin_same M k e _ r (same_upd s (s.free n)) (s.free n) upd_same
theorem one {xs : List Nat} (h : xs.length = 1) : ∃ x, xs = [x] := by
  match xs, h with
  | [x], _ => exact ⟨x, rfl⟩
theorem two {xs : List Nat} (h : xs.length = 2) : ∃ x y, xs = [x, y] := by
  match xs, h with
  | [x, y], _ => exact ⟨x, y, rfl⟩
theorem three' {xs : List Nat} (h : xs.length = 3) : ∃ x y z, xs = [x, y, z] := by
  match xs, h with
  | [x, y, z], _ => exact ⟨x, y, z, rfl⟩
theorem five {xs : List Nat} (h : xs.length = 5) : ∃ a b c d e, xs = [a, b, c, d, e] := by
  match xs, h with
  | [a, b, c, d, e], _ => exact ⟨a, b, c, d, e, rfl⟩
theorem none' {xs : List Nat} (h : xs.length = 0) : xs = [] := List.eq_nil_of_length_eq_zero h
/-- lo <= name <= hi -/
theorem q_between {lo hi : Int} {i n : Nat} {σ : L2.St} {H : Hp} {Q : Bool → Hp → Prop} (hσ : σ[i]? = some (some (natV n))) (q : Q (decide (lo ≤ (n : Int)) && decide ((n : Int) ≤ hi)) H) :
    tTest (tChain (rI0 fun i j => .bl (decide (i ≤ j))) (rI0 fun i j => .bl (decide (i ≤ j))) (tC (.int lo)) (tVar i) (tC (.int hi))) σ H Q := by
  refine ⟨_, hσ, _, _, rfl, rfl, _, rfl, ?_⟩
  by_cases c : lo ≤ (n : Int)
  · rw [decide_eq_true c] at q
    refine if_of (decide_eq_true c) (fun _ => ⟨_, _, rfl, rfl, _, rfl, q⟩) (fun z => nomatch z)
  · rw [decide_eq_false c] at q
    refine if_of (decide_eq_false c) (fun z => nomatch z) (fun _ => ⟨_, rfl, q⟩)
theorem at0 {x : V} {l : List V} : atI (x :: l) (0 : Int) = some x := atI_nat (xs := x :: l) (j := 0) rfl
abbrev N1 (c : Nat) : Nat := arity c

abbrev sD2 : Stmt := top 38
theorem scD2 : FnScope ["market", "numbers"] ["market", "numbers"] (defScope sD2) := ⟨rfl, rfl, rfl, by decide +kernel, rfl, by decide +kernel, by decide +kernel⟩
abbrev sD1 : Stmt := top 37
theorem scD1 : FnScope ["market", "numbers", "kind", "units", "start", "duration", "cost"] ["market", "numbers"] (defScope sD1) := ⟨rfl, rfl, rfl, by decide +kernel, rfl, by decide +kernel, by decide +kernel⟩
abbrev sD3 : Stmt := top 39
theorem scD3 : FnScope ["market", "numbers", "number", "cost", "previous"] ["market", "numbers"] (defScope sD3) := ⟨rfl, rfl, rfl, by decide +kernel, rfl, by decide +kernel, by decide +kernel⟩
abbrev sD4 : Stmt := top 40
theorem scD4 : FnScope ["market", "numbers", "kind", "units", "previous"] ["market", "numbers"] (defScope sD4) := ⟨rfl, rfl, rfl, by decide +kernel, rfl, by decide +kernel, by decide +kernel⟩
/-- Lot(kind, units, start, duration, cost) -/
def spLot (C : Addr) : Sp := fun vs H Q _ => ∃ (x dx : Addr) (l : Kh432.Lot), vs = [.ref x, natV l.kind, natV l.units, natV l.start, natV l.duration, natV l.cost] ∧ H x = some (.ins C dx []) ∧
  ∀ H' : Hp, H' x = some (.ins C dx (lF l)) → (∀ b o, H b = some o → b ≠ x → H' b = some o) → Q .non H'
abbrev sLot : Stmt := inClass (top 2) 0
theorem scLot : FnScope ["self", "kind", "units", "start", "duration", "cost"] ["self", "kind", "units", "start", "duration", "cost"] (defScope sLot) := ⟨rfl, rfl, rfl, by decide +kernel, rfl, by decide +kernel, by decide +kernel⟩
theorem put_end {f : Str} {v : V} : ∀ {l : List (Str × V)}, (∀ q ∈ l, ¬ q.1 = f) → putF f v l = l ++ [(f, v)]
  | [], _ => rfl
  | (g, x) :: r, h => by
    rw [put_past (h (g, x) List.mem_cons_self), put_end fun q hq => h q (List.mem_cons_of_mem _ hq)]
    rfl
theorem lF_new (l : Kh432.Lot) : putF "cost" (natV l.cost) (putF "duration" (natV l.duration) (putF "start" (natV l.start) (putF "units" (natV l.units) (putF "kind" (natV l.kind) [])))) = lF l := by
  have n1 : ¬ (Str.ofString "kind") = Str.ofString "units" := by decide +kernel
  have n2 : ¬ (Str.ofString "kind") = Str.ofString "start" := by decide +kernel
  have n3 : ¬ (Str.ofString "kind") = Str.ofString "duration" := by decide +kernel
  have n4 : ¬ (Str.ofString "kind") = Str.ofString "cost" := by decide +kernel
  have n5 : ¬ (Str.ofString "units") = Str.ofString "start" := by decide +kernel
  have n6 : ¬ (Str.ofString "units") = Str.ofString "duration" := by decide +kernel
  have n7 : ¬ (Str.ofString "units") = Str.ofString "cost" := by decide +kernel
  have n8 : ¬ (Str.ofString "start") = Str.ofString "duration" := by decide +kernel
  have n9 : ¬ (Str.ofString "start") = Str.ofString "cost" := by decide +kernel
  have n10 : ¬ (Str.ofString "duration") = Str.ofString "cost" := by decide +kernel
  rw [put_end (f := Str.ofString "kind") (l := []) (by simp)]
  rw [put_end (f := Str.ofString "units") (by simp [n1])]
  rw [put_end (f := Str.ofString "start") (by simp [n2, n5])]
  rw [put_end (f := Str.ofString "duration") (by simp [n3, n6, n8])]
  rw [put_end (f := Str.ofString "cost") (by simp [n4, n7, n9, n10])]
  rfl
theorem and2 {a b c d : Bool} (h1 : a = c) (h2 : b = d) : (a && b) = (c && d) := by rw [h1, h2]
theorem LotsAt.erase {C : Addr} {H : Hp} {as : List Addr} {ls : List Kh432.Lot} (h : LotsAt C H as ls) (n : Nat) : LotsAt C H (as.eraseIdx n) (ls.eraseIdx n) := by
  refine ⟨by rw [List.length_eraseIdx, List.length_eraseIdx, h.len], fun i a l h1 h2 => ?_⟩
  rw [List.getElem?_eraseIdx] at h1 h2
  by_cases c : i < n
  · rw [if_pos c] at h1 h2
    exact h.lot i a l h1 h2
  · rw [if_neg c] at h1 h2
    exact h.lot (i + 1) a l h1 h2
/-- a list that is no lot's and no market's is changed -/
theorem LotsAt.other {C : Addr} {H : Hp} {as : List Addr} {ls : List Kh432.Lot} {L : Addr} {xs : List V} {o : HO} (h : LotsAt C H as ls) (hL : H L = some (.lst xs)) : LotsAt C (upd H L o) as ls := by
  refine ⟨h.len, fun i a l h1 h2 => ?_⟩
  obtain ⟨dx, e⟩ := h.lot i a l h1 h2
  exact ⟨dx, by rw [upd_ne (ne_of e hL (by intro z; cases z))]; exact e⟩
theorem Changed.upd_list {C CM : Addr} {H H1 : Hp} {p L D B x : Addr} {as : List Addr} {o : HO} {m' : Kh432.Market} {fp' : List Addr} (s : Same H H1) (hx : x ∈ fpOf p L D B as) (M : Mkt C CM (upd H1 x o) p m' fp') (hf : ∀ b ∈ fp', b ∈ fpOf p L D B as ∨ H b = none) :
    Changed C CM H (fpOf p L D B as) p m' (upd H1 x o) := by
  refine ⟨fp', M, hf, fun b u e n => ?_, fun b u e => ?_⟩
  · have z : b ≠ x := fun z => n (by rw [z]; exact hx)
    rw [upd_ne z]
    exact s _ _ e
  · by_cases z : b = x
    · subst z
      exact ⟨o, upd_same⟩
    · exact ⟨u, by rw [upd_ne z]; exact s _ _ e⟩
section
variable {P : Program} {w : World} {K : PySem.W.Frag} {mg : Str → Option Value} {base : Heap} {C CM : Addr}
theorem ok_lot {f : Addr} {fd : FuncData} (F : Fun K "__init__" "Lot.__init__" sLot f fd) (T : Txt K mg C CM) : FnOk P w K mg base CX0 1 f fd ["self", "kind", "units", "start", "duration", "cost"] (spLot C) := by
  refine F.ok scLot (fun vs H Q E h => ?_) (fun cdv A outer s H vs Q E hr h => ?_)
  · obtain ⟨x, dx, l, rfl, _⟩ := h
    rfl
  · obtain ⟨x, dx, l, rfl, hx, k⟩ := h
    refine ⟨_, pss_cons (ps_fld (pv 0) (pv 1) rfl) (pss_cons (ps_fld (pv 0) (pv 2) rfl) (pss_cons (ps_fld (pv 0) (pv 3) rfl) (pss_cons (ps_fld (pv 0) (pv 4) rfl) (pss_one (ps_fld (pv 0) (pv 5) rfl))))), ?_⟩
    refine ⟨_, rfl, _, rfl, x, C, dx, [], rfl, hx, T.cl, T.aK, (by show 0 < 1000; decide), ?_⟩
    refine ⟨_, rfl, _, rfl, x, C, dx, _, rfl, upd_same, T.cl, T.aU, (by show 1 < 1000; decide), ?_⟩
    refine ⟨_, rfl, _, rfl, x, C, dx, _, rfl, upd_same, T.cl, T.aS, ?_, ?_⟩
    · exact Nat.lt_of_le_of_lt (length_putF _ _ _) (by show 2 < 1000; decide)
    refine ⟨_, rfl, _, rfl, x, C, dx, _, rfl, upd_same, T.cl, T.aD, ?_, ?_⟩
    · exact Nat.lt_of_le_of_lt (length_putF _ _ _) (Nat.lt_of_le_of_lt (Nat.add_le_add_right (length_putF _ _ _) 1) (by show 3 < 1000; decide))
    refine ⟨_, rfl, _, rfl, x, C, dx, _, rfl, upd_same, T.cl, T.aC, ?_, ?_⟩
    · exact Nat.lt_of_le_of_lt (length_putF _ _ _) (Nat.lt_of_le_of_lt (Nat.add_le_add_right (length_putF _ _ _) 1) (Nat.lt_of_le_of_lt (Nat.add_le_add_right (Nat.add_le_add_right (length_putF _ _ _) 1) 1) (by show 4 < 1000; decide)))
    · refine k _ ?_ fun b o e hb => ?_
      · rw [upd_same]
        have z := lF_new l
        exact congrArg (fun q => some (HO.ins C dx q)) z
      · rw [upd_ne hb, upd_ne hb, upd_ne hb, upd_ne hb, upd_ne hb]
        exact e
theorem ok_d1 {f : Addr} {fd : FuncData} (F : Fun K "add_lot" "add_lot" sD1 f fd) (T : Txt K mg C CM) (D : ClsDef P w K mg base "Lot" C 1 ["self", "kind", "units", "start", "duration", "cost"] (spLot C)) : FnOk P w K mg base CX0 3 f fd ["market", "numbers"] (spDeed K C CM 1) := by
  refine F.ok scD1 (fun vs H Q E h => ?_) (fun cdv A outer s H vs Q E hr h => ?_)
  · obtain ⟨p, a, m, fp, xs, rfl, _⟩ := h
    rfl
  · obtain ⟨p, a, m, fp, xs, rfl, M, hg, hS, hl, k⟩ := h
    obtain ⟨kd, u, st, d, c, rfl⟩ := five hl
    have hr2 : Room 2 _ := hr.mono (by decide)
    have hn := hg.1
    have M0 := M
    obtain ⟨L, DD, B, as, rfl, M1⟩ := M
    obtain ⟨dx, hp⟩ := M1.ins
    refine ⟨_, pss_cons (ps_asg (pv 1) (pg_unl rfl (pgs_cons (pg_name (i := 2) scD1.nd rfl (.inl rfl)) (pgs_cons (pg_name (i := 3) scD1.nd rfl (.inl rfl)) (pgs_cons (pg_name (i := 4) scD1.nd rfl (.inl rfl)) (pgs_cons (pg_name (i := 5) scD1.nd rfl (.inl rfl)) (pgs_cons (pg_name (i := 6) scD1.nd rfl (.inl rfl)) pgs_nil)))))))
      (pss_cons (ps_if (PW.pt (pw_or (pt_cmpR op_ge (pv 2) (pe_const T.kinds rfl) (nomark _)) (pw_or (pt_not (pt_chain op_le op_le pe_int (pv 3) pe_int)) (pw_or (pt_cmpR op_gt (pv 4) pe_int (nomark _))
          (pw_or (pt_not (pt_chain op_le op_le pe_int (pv 5) pe_int)) (pw_or1 (pt_not (pt_chain op_le op_le pe_int (pv 6) pe_int))))))))
        (pss_one (ps_ret (pe_lst (pa_cons (pe_un un_neg pe_int) pa_nil)))) pss_nil)
      (pss_cons (ps_if (pt_cmpR op_eq (pe_callB call_len_seq (by rfl) T.len PySem.boot_len (pa_cons (pe_fld (pv 0) rfl) pa_nil)) (pe_const T.mostLots rfl) (nomark _)) (pss_one (ps_ret (pe_lst (pa_cons (pe_un un_neg pe_int) pa_nil)))) pss_nil)
      (pss_cons (ps_expr (pe_bm PySem.F.plainAttrs_list PySem.F.slot_list_append PySem.F.type_list_append mt_append (pe_fld (pv 0) rfl) (pa_cons (pe_new D hr2 rfl (pa_cons (pv 2) (pa_cons (pv 3) (pa_cons (pv 4) (pa_cons (pv 5) (pa_cons (pv 6) pa_nil)))))) pa_nil)))
      (pss_one (ps_ret (pe_lst (pa_cons (pe_op op_sub (pe_callB call_len_seq (by rfl) T.len PySem.boot_len (pa_cons (pe_fld (pv 0) rfl) pa_nil)) pe_int) pa_nil))))))), ?_⟩
    refine ⟨_, rfl, a, _, rfl, hS, rfl, _, _, rfl, _, _, rfl, _, _, rfl, _, _, rfl, _, _, rfl, rfl, ?_⟩
    -- what the five numbers are refused for
    have bad : (3 ≤ kd ∨ u < 1 ∨ 30 < u ∨ 99 < st ∨ d < 1 ∨ 20 < d ∨ c < 1 ∨ 999 < c) → ∀ r, H r = none → Q (.ref r) (upd H r (.lst [.int (-22)])) := fun z r n => fin_new M0 k (ap_add_bad z) H r (Same.refl _) n
    refine ⟨_, rfl, _, _, rfl, rfl, _, rfl, ?_⟩
    refine if_of (dec_le 3 kd) (fun c1 => ?_) (fun c1 => ?_)
    · exact if_of rfl (fun _ => ⟨_, rfl, (by show 1 ≤ sizeLine; decide), fun r n => bad (.inl (of_decide_eq_true c1)) r n⟩) (fun z => nomatch z)
    have c1 := of_decide_eq_false c1
    refine q_between rfl ?_
    refine if_of (d := !(decide (1 ≤ u) && decide (u ≤ 30))) (congrArg _ (and2 (dec_le 1 u) (dec_le u 30))) (fun c2 => ?_) (fun c2 => ?_)
    · refine if_of rfl (fun _ => ⟨_, rfl, (by show 1 ≤ sizeLine; decide), fun r n => bad (.inr ?_) r n⟩) (fun z => nomatch z)
      simp at c2
      omega
    refine ⟨_, rfl, _, _, rfl, rfl, _, rfl, ?_⟩
    refine if_of (dec_lt 99 st) (fun c3 => ?_) (fun c3 => ?_)
    · refine if_of rfl (fun _ => ⟨_, rfl, (by show 1 ≤ sizeLine; decide), fun r n => bad (.inr (.inr (.inr (.inl (of_decide_eq_true c3))))) r n⟩) (fun z => nomatch z)
    have c3 := of_decide_eq_false c3
    refine q_between rfl ?_
    refine if_of (d := !(decide (1 ≤ d) && decide (d ≤ 20))) (congrArg _ (and2 (dec_le 1 d) (dec_le d 20))) (fun c4 => ?_) (fun c4 => ?_)
    · refine if_of rfl (fun _ => ⟨_, rfl, (by show 1 ≤ sizeLine; decide), fun r n => bad ?_ r n⟩) (fun z => nomatch z)
      simp at c4
      omega
    refine q_between rfl ?_
    refine if_of (d := !(decide (1 ≤ c) && decide (c ≤ 999))) (congrArg _ (and2 (dec_le 1 c) (dec_le c 999))) (fun c5 => ?_) (fun c5 => ?_)
    · refine ⟨_, rfl, (by show 1 ≤ sizeLine; decide), fun r n => bad ?_ r n⟩
      simp at c5
      omega
    have good : ¬ (3 ≤ kd ∨ u < 1 ∨ 30 < u ∨ 99 < st ∨ d < 1 ∨ 20 < d ∨ c < 1 ∨ 999 < c) := by
      simp at c2 c4 c5
      omega
    -- seven lots already
    refine ⟨_, rfl, p, CM, dx, _, _, rfl, hp, T.cm, T.mL, mF_lots _ _ _ _, _, _, rfl, .inl (SqL.of M1.lst), rfl, _, rfl, ?_⟩
    have e7 : decide (V.int (((as.map V.ref).length : Nat) : Int) = V.int 7) = decide (7 ≤ m.lots.length) := by
      rw [List.length_map, M1.len, decide_eq_decide]
      constructor
      · intro z
        injection z with z
        omega
      · intro z
        have : m.lots.length = 7 := by omega
        rw [this]
        rfl
    refine if_of e7 (fun c6 => ?_) (fun c6 => ?_)
    · exact ⟨_, rfl, (by show 1 ≤ sizeLine; decide), fun r n => fin_new M0 k (ap_add_full good (of_decide_eq_true c6)) H r (Same.refl _) n⟩
    have c6 := of_decide_eq_false c6
    -- the new lot
    refine ⟨_, rfl, p, CM, dx, _, _, rfl, hp, T.cm, T.mL, mF_lots _ _ _ _, .inl ⟨rfl, _, SqL.of M1.lst⟩, _, rfl, _, rfl, _, rfl, _, rfl, _, rfl, fun x dy nx ny nxy => ?_⟩
    refine ⟨x, dy, ⟨kd, u, st, d, c⟩, rfl, upd_same, fun H1 hx kp => ⟨rfl, ?_⟩⟩
    have s1 : Same H H1 := Same.made nx ny kp
    have hL1 := s1 _ _ M1.lst
    have ML := M1.same s1
    have nL : x ∉ as := fun z => by
      obtain ⟨o, q⟩ := M1.there x (List.mem_cons_of_mem _ (List.mem_cons_of_mem _ (List.mem_cons_of_mem _ (List.mem_cons_of_mem _ z))))
      rw [nx] at q
      cases q
    refine ⟨L, _, _, rfl, rfl, hL1, by rw [List.length_map, M1.len]; exact line' _ (by omega), ?_⟩
    have hp1 := s1 _ _ hp
    have pL : p ≠ L := (ne_of hL1 hp1 (by intro z; cases z)).symm
    have hp2 : upd H1 L (.lst (as.map V.ref ++ [V.ref x])) p = some (.ins CM dx (mF L DD B m.spent)) := by rw [upd_ne pL]; exact hp1
    refine ⟨_, rfl, p, CM, dx, _, _, rfl, hp2, T.cm, T.mL, mF_lots _ _ _ _, _, _, rfl, .inl (SqL.of upd_same), _, _, rfl, rfl, (by show 1 ≤ sizeLine; decide), fun r n => ?_⟩
    have ea := ap_add (m := m) good c6
    rw [ea] at k
    have xL : x ≠ L := ne_of hx hL1 (by intro z; cases z)
    have ch : Changed C CM H (fpOf p L DD B as) p { m with lots := m.lots ++ [⟨kd, u, st, d, c⟩] } (upd H1 L (.lst (as.map V.ref ++ [V.ref x]))) := by
      refine Changed.upd_list (fp' := fpOf p L DD B (as ++ [x])) s1 (by unfold fpOf; simp) ⟨L, DD, B, as ++ [x], rfl, ⟨⟨dx, hp2⟩, by rw [upd_same, List.map_append]; rfl, ?_, by rw [upd_ne M1.ld.symm]; exact ML.dem, by rw [upd_ne M1.lb.symm]; exact ML.bgt, ?_, M1.ld, M1.lb, M1.db, ?_⟩⟩ ?_
      · exact (ML.lots.other hL1).snoc ⟨dy, by rw [upd_ne xL]; exact hx⟩
      · rw [List.nodup_append]
        refine ⟨M1.nd, by simp, fun b hb y hy => ?_⟩
        rw [List.mem_singleton.mp hy]
        intro z
        exact nL (z ▸ hb)
      · intro z
        rcases List.mem_append.mp z with z | z
        · exact M1.pa z
        · rw [List.mem_singleton] at z
          subst z
          rw [nx] at hp
          cases hp
      · intro b hb
        unfold fpOf at hb ⊢
        simp only [List.mem_cons, List.mem_append, List.not_mem_nil, or_false] at hb ⊢
        rcases hb with h | h | h | h | h | h
        · exact .inl (.inl h)
        · exact .inl (.inr (.inl h))
        · exact .inl (.inr (.inr (.inl h)))
        · exact .inl (.inr (.inr (.inr (.inl h))))
        · exact .inl (.inr (.inr (.inr (.inr h))))
        · exact .inr (h ▸ nx)
    refine k _ r (ch.same (same_new n)) (ch.free n) ?_
    rw [upd_same, ans_single]
    congr 2
    rw [List.length_append, List.length_map, M1.len]
    show [V.int (((m.lots.length + 1 : Nat) : Int) - 1)] = _
    congr 2
    omega
end
end Lc
/-! part LcK -/
namespace Lc
open PySem PySem.Spec PyProof.Rows L2

abbrev sD5 : Stmt := top 41
theorem scD5 : FnScope ["market", "numbers"] ["market", "numbers"] (defScope sD5) := ⟨rfl, rfl, rfl, by decide +kernel, rfl, by decide +kernel, by decide +kernel⟩
abbrev sD6 : Stmt := top 42
theorem scD6 : FnScope ["market", "numbers", "mask", "found"] ["market", "numbers"] (defScope sD6) := ⟨rfl, rfl, rfl, by decide +kernel, rfl, by decide +kernel, by decide +kernel⟩
theorem not_dec {p : Prop} [Decidable p] {b : Bool} (h : (!decide p) = b) : b = true → ¬ p := fun e q => by
  rw [e, decide_eq_true q] at h
  cases h
theorem not_dec' {p : Prop} [Decidable p] {b : Bool} (h : (!decide p) = b) : b = false → p := fun e => by
  rw [e] at h
  exact Classical.byContradiction fun z => by
    rw [decide_eq_false z] at h
    cases h
theorem map_erase : ∀ (as : List Addr) (n : Nat), (as.map V.ref).eraseIdx n = (as.eraseIdx n).map V.ref
  | [], _ => rfl
  | _ :: _, 0 => rfl
  | a :: r, n + 1 => congrArg (List.cons (V.ref a)) (map_erase r n)
section
variable {P : Program} {w : World} {K : PySem.W.Frag} {mg : Str → Option Value} {base : Heap} {C CM : Addr}
theorem ok_d2 {f : Addr} {fd : FuncData} (F : Fun K "remove_lot" "remove_lot" sD2 f fd) (T : Txt K mg C CM) (D : Def P w K mg base "has_lot" 1 ["market", "number"] (spHas C CM)) : FnOk P w K mg base CX0 2 f fd ["market", "numbers"] (spDeed K C CM 2) := by
  refine F.ok scD2 (fun vs H Q E h => ?_) (fun cdv A outer s H vs Q E hr h => ?_)
  · obtain ⟨p, a, m, fp, xs, rfl, _⟩ := h
    rfl
  · obtain ⟨p, a, m, fp, xs, rfl, M, hg, hS, hl, k⟩ := h
    obtain ⟨n, rfl⟩ := one hl
    have M0 := M
    obtain ⟨L, DD, B, as, rfl, M1⟩ := M
    obtain ⟨dx, hp⟩ := M1.ins
    refine ⟨_, pss_cons (ps_if (pt_not (pt_val (pe_def D hr rfl (pa_cons (pv 0) (pa_cons (pe_ix ix_list (pv 1) pe_int (fun _ _ => rfl)) pa_nil))))) (pss_one (ps_ret (pe_lst (pa_cons (pe_un un_neg pe_int) pa_nil)))) pss_nil)
      (pss_cons (ps_expr (pe_bm PySem.F.plainAttrs_list PySem.F.slot_list_pop PySem.F.type_list_pop mt_popAt (pe_fld (pv 0) rfl) (pa_cons (pe_ix ix_list (pv 1) pe_int (fun _ _ => rfl)) pa_nil)))
      (pss_one (ps_ret (pe_lst (pa_cons (pe_callB call_len_seq (by rfl) T.len PySem.boot_len (pa_cons (pe_fld (pv 0) rfl) pa_nil)) pa_nil))))), ?_⟩
    refine ⟨_, rfl, _, rfl, a, _, _, natV n, rfl, rfl, hS, at0, p, m, _, n, rfl, M0, _, rfl, ?_⟩
    refine if_of (d := !decide (n < m.lots.length)) rfl (fun c => ?_) (fun c => ?_)
    · have c := not_dec rfl c
      exact ⟨_, rfl, (by show 1 ≤ sizeLine; decide), fun r nr => fin_new M0 k (ap_rem_no c) H r (Same.refl _) nr⟩
    have c := not_dec' rfl c
    have hla : n < (as.map V.ref).length := by rw [List.length_map, M1.len]; exact c
    refine ⟨_, rfl, p, CM, dx, _, _, rfl, hp, T.cm, T.mL, mF_lots _ _ _ _, .inl ⟨rfl, _, SqL.of M1.lst⟩, _, rfl, a, _, _, natV n, rfl, rfl, hS, at0, L, _, _, n, _, rfl, rfl, M1.lst, by omega, ?_, (ixN_seq (ix_nat hla)).1, List.getElem?_eq_getElem hla, ?_⟩
    · have := hg.1
      omega
    have pL : p ≠ L := (ne_of M1.lst hp (by intro z; cases z)).symm
    have hp2 : upd H L (.lst ((as.map V.ref).eraseIdx n)) p = some (.ins CM dx (mF L DD B m.spent)) := by rw [upd_ne pL]; exact hp
    refine ⟨_, rfl, p, CM, dx, _, _, rfl, hp2, T.cm, T.mL, mF_lots _ _ _ _, _, _, rfl, .inl (SqL.of upd_same), (by show 1 ≤ sizeLine; decide), fun r nr => ?_⟩
    rw [ap_rem c] at k
    have em : (as.map V.ref).eraseIdx n = (as.eraseIdx n).map V.ref := map_erase as n
    have sub := List.eraseIdx_sublist as n
    have ch : Changed C CM H (fpOf p L DD B as) p { m with lots := m.lots.eraseIdx n } (upd H L (.lst ((as.map V.ref).eraseIdx n))) := by
      refine Changed.upd_list (fp' := fpOf p L DD B (as.eraseIdx n)) (Same.refl _) (by unfold fpOf; simp) ⟨L, DD, B, as.eraseIdx n, rfl, ⟨⟨dx, hp2⟩, by rw [upd_same, em], (M1.lots.erase n).other M1.lst, by rw [upd_ne M1.ld.symm]; exact M1.dem, by rw [upd_ne M1.lb.symm]; exact M1.bgt, sub.nodup M1.nd, M1.ld, M1.lb, M1.db, fun z => M1.pa (sub.subset z)⟩⟩ ?_
      intro b hb
      unfold fpOf at hb ⊢
      simp only [List.mem_cons] at hb ⊢
      rcases hb with h | h | h | h | h
      · exact .inl (.inl h)
      · exact .inl (.inr (.inl h))
      · exact .inl (.inr (.inr (.inl h)))
      · exact .inl (.inr (.inr (.inr (.inl h))))
      · exact .inl (.inr (.inr (.inr (.inr (sub.subset h)))))
    refine k _ r (ch.same (same_new nr)) (ch.free nr) ?_
    rw [upd_same, ans_single]
    congr 2
    rw [List.length_eraseIdx, if_pos hla, List.length_map, M1.len]
theorem LotsAt.price {H : Hp} {as : List Addr} {ls : List Kh432.Lot} (h : LotsAt C H as ls) (nd : as.Nodup) {n : Nat} {b dx : Addr} {l : Kh432.Lot} {c : Nat} (hb : as[n]? = some b) (hn : n < ls.length) : LotsAt C (upd H b (.ins C dx (lF { l with cost := c }))) as (ls.set n { l with cost := c }) := by
  refine ⟨by rw [List.length_set]; exact h.len, fun i a k h1 h2 => ?_⟩
  by_cases e : i = n
  · subst e
    rw [hb] at h1
    cases h1
    rw [List.getElem?_set_self hn] at h2
    cases h2
    exact ⟨dx, upd_same⟩
  · rw [List.getElem?_set_ne (Ne.symm e)] at h2
    obtain ⟨dy, q⟩ := h.lot i a k h1 h2
    have ne : a ≠ b := fun z => e (nd_ix nd h1 (z ▸ hb))
    exact ⟨dy, by rw [upd_ne ne]; exact q⟩
theorem ok_d3 {f : Addr} {fd : FuncData} (F : Fun K "set_cost" "set_cost" sD3 f fd) (T : Txt K mg C CM) (D : Def P w K mg base "has_lot" 1 ["market", "number"] (spHas C CM)) : FnOk P w K mg base CX0 2 f fd ["market", "numbers"] (spDeed K C CM 3) := by
  refine F.ok scD3 (fun vs H Q E h => ?_) (fun cdv A outer s H vs Q E hr h => ?_)
  · obtain ⟨p, a, m, fp, xs, rfl, _⟩ := h
    rfl
  · obtain ⟨p, a, m, fp, xs, rfl, M, hg, hS, hl, k⟩ := h
    obtain ⟨n, c, rfl⟩ := two hl
    have M0 := M
    obtain ⟨L, DD, B, as, rfl, M1⟩ := M
    obtain ⟨dx, hp⟩ := M1.ins
    refine ⟨_, pss_cons (ps_asg (pv 1) (pg_unl rfl (pgs_cons (pg_name (i := 2) scD3.nd rfl (.inl rfl)) (pgs_cons (pg_name (i := 3) scD3.nd rfl (.inl rfl)) pgs_nil))))
      (pss_cons (ps_if (pt_not (pt_val (pe_def D hr rfl (pa_cons (pv 0) (pa_cons (pv 2) pa_nil))))) (pss_one (ps_ret (pe_lst (pa_cons (pe_un un_neg pe_int) pa_nil)))) pss_nil)
      (pss_cons (ps_if (pt_not (pt_chain op_le op_le pe_int (pv 3) pe_int)) (pss_one (ps_ret (pe_lst (pa_cons (pe_un un_neg pe_int) pa_nil)))) pss_nil)
      (pss_cons (ps_set (i := 4) scD3.nd rfl (.inl rfl) (pe_fld (pe_ix ix_list (pe_fld (pv 0) rfl) (pv 2) (fun _ _ => rfl)) rfl))
      (pss_cons (ps_fld (pe_ix ix_list (pe_fld (pv 0) rfl) (pv 2) (fun _ _ => rfl)) (pv 3) rfl)
      (pss_one (ps_ret (pe_lst (pa_cons (pv 4) pa_nil)))))))), ?_⟩
    refine ⟨_, rfl, a, _, rfl, hS, rfl, _, _, rfl, _, _, rfl, rfl, ?_⟩
    refine ⟨_, rfl, _, rfl, p, m, _, n, rfl, M0, _, rfl, ?_⟩
    refine if_of (d := !decide (n < m.lots.length)) rfl (fun c0 => ?_) (fun c0 => ?_)
    · have c0 := not_dec rfl c0
      exact ⟨_, rfl, (by show 1 ≤ sizeLine; decide), fun r nr => fin_new M0 k (ap_sc_no c0) H r (Same.refl _) nr⟩
    have c1 := not_dec' rfl c0
    refine q_between rfl ?_
    refine if_of (d := !(decide (1 ≤ c) && decide (c ≤ 999))) (congrArg _ (and2 (dec_le 1 c) (dec_le c 999))) (fun c2 => ?_) (fun c2 => ?_)
    · refine ⟨_, rfl, (by show 1 ≤ sizeLine; decide), fun r nr => fin_new M0 k (ap_sc_bad c1 ?_) H r (Same.refl _) nr⟩
      simp at c2
      omega
    have good : ¬ (c < 1 ∨ 999 < c) := by
      simp at c2
      omega
    obtain ⟨b, hb, hlot⟩ := M1.lots.get (List.getElem?_eq_getElem c1)
    rw [← lotAt_get (List.getElem?_eq_getElem c1)] at hlot
    obtain ⟨dl, hbl⟩ := hlot
    refine ⟨_, rfl, p, CM, dx, _, _, rfl, hp, T.cm, T.mL, mF_lots _ _ _ _, _, rfl, L, _, _, V.ref b, rfl, rfl, SqL.of M1.lst, atI_nat (by rw [List.getElem?_map, hb]; rfl), b, C, dl, _, _, rfl, hbl, T.cl, T.aC, lF_cost _, ?_⟩
    refine ⟨_, rfl, _, rfl, p, CM, dx, _, _, rfl, hp, T.cm, T.mL, mF_lots _ _ _ _, _, rfl, L, _, _, V.ref b, rfl, rfl, SqL.of M1.lst, atI_nat (by rw [List.getElem?_map, hb]; rfl), b, C, dl, _, rfl, hbl, T.cl, T.aC, (by show 5 < 1000; decide), ?_⟩
    rw [lF_put]
    refine ⟨_, rfl, (by show 1 ≤ sizeLine; decide), fun r nr => ?_⟩
    rw [ap_sc c1 good] at k
    have bm : b ∈ as := List.mem_of_getElem? hb
    have pb : p ≠ b := fun z => M1.pa (z ▸ bm)
    have lb : L ≠ b := ne_of M1.lst hbl (by intro z; cases z)
    have db : DD ≠ b := ne_of M1.dem hbl (by intro z; cases z)
    have bb : B ≠ b := ne_of M1.bgt hbl (by intro z; cases z)
    have ch : Changed C CM H (fpOf p L DD B as) p { m with lots := m.lots.set n { Kh432.lotAt m n with cost := c } } (upd H b (.ins C dl (lF { Kh432.lotAt m n with cost := c }))) :=
      Changed.upd_list (fp' := fpOf p L DD B as) (Same.refl _) (by unfold fpOf; simp [bm]) ⟨L, DD, B, as, rfl, ⟨⟨dx, by rw [upd_ne pb]; exact hp⟩, by rw [upd_ne lb]; exact M1.lst, M1.lots.price M1.nd hb c1, by rw [upd_ne db]; exact M1.dem, by rw [upd_ne bb]; exact M1.bgt, M1.nd, M1.ld, M1.lb, M1.db, M1.pa⟩⟩ fun _ z => .inl z
    refine k _ r (ch.same (same_new nr)) (ch.free nr) ?_
    rw [upd_same, ans_single]
    rfl
theorem ok_d4 {f : Addr} {fd : FuncData} (F : Fun K "set_demand" "set_demand" sD4 f fd) (T : Txt K mg C CM) : FnOk P w K mg base CX0 1 f fd ["market", "numbers"] (spDeed K C CM 4) := by
  refine F.ok scD4 (fun vs H Q E h => ?_) (fun cdv A outer s H vs Q E hr h => ?_)
  · obtain ⟨p, a, m, fp, xs, rfl, _⟩ := h
    rfl
  · obtain ⟨p, a, m, fp, xs, rfl, M, hg, hS, hl, k⟩ := h
    obtain ⟨n, u, rfl⟩ := two hl
    have M0 := M
    obtain ⟨L, DD, B, as, rfl, M1⟩ := M
    obtain ⟨dx, hp⟩ := M1.ins
    refine ⟨_, pss_cons (ps_asg (pv 1) (pg_unl rfl (pgs_cons (pg_name (i := 2) scD4.nd rfl (.inl rfl)) (pgs_cons (pg_name (i := 3) scD4.nd rfl (.inl rfl)) pgs_nil))))
      (pss_cons (ps_if (pt_cmpR op_ge (pv 2) (pe_const T.kinds rfl) (nomark _)) (pss_one (ps_ret (pe_lst (pa_cons (pe_un un_neg pe_int) pa_nil)))) pss_nil)
      (pss_cons (ps_if (pt_cmpR op_gt (pv 3) pe_int (nomark _)) (pss_one (ps_ret (pe_lst (pa_cons (pe_un un_neg pe_int) pa_nil)))) pss_nil)
      (pss_cons (ps_set (i := 4) scD4.nd rfl (.inl rfl) (pe_ix ix_list (pe_fld (pv 0) rfl) (pv 2) (fun _ _ => rfl)))
      (pss_cons (ps_asg (pv 3) (pg_sub (pe_fld (pv 0) rfl) (pv 2) set_list))
      (pss_one (ps_ret (pe_lst (pa_cons (pv 4) pa_nil)))))))), ?_⟩
    refine ⟨_, rfl, a, _, rfl, hS, rfl, _, _, rfl, _, _, rfl, rfl, ?_⟩
    refine ⟨_, rfl, _, _, rfl, rfl, _, rfl, ?_⟩
    refine if_of (dec_le 3 n) (fun c => ?_) (fun c => ?_)
    · exact ⟨_, rfl, (by show 1 ≤ sizeLine; decide), fun r nr => fin_new M0 k (ap_sd_no (of_decide_eq_true c)) H r (Same.refl _) nr⟩
    have c1 := of_decide_eq_false c
    refine ⟨_, rfl, _, _, rfl, rfl, _, rfl, ?_⟩
    refine if_of (dec_lt 99 u) (fun c => ?_) (fun c => ?_)
    · exact ⟨_, rfl, (by show 1 ≤ sizeLine; decide), fun r nr => fin_new M0 k (ap_sd_bad c1 (of_decide_eq_true c)) H r (Same.refl _) nr⟩
    have c2 := of_decide_eq_false c
    have hnl : n < m.demand.length := by rw [hg.2.1]; omega
    have gd : m.demand[n]? = some m.demand[n] := List.getElem?_eq_getElem hnl
    refine ⟨_, rfl, p, CM, dx, _, _, rfl, hp, T.cm, T.mD, mF_dem _ _ _ _, _, rfl, DD, _, _, natV m.demand[n], rfl, rfl, SqL.of M1.dem, atI_nat (by rw [List.getElem?_map, gd]; rfl), ?_⟩
    refine ⟨_, rfl, _, rfl, p, CM, dx, _, _, rfl, hp, T.cm, T.mD, mF_dem _ _ _ _, _, rfl, DD, _, _, n, rfl, rfl, M1.dem, ix_nat (by rw [List.length_map]; exact hnl), ?_⟩
    rw [map_set_nat]
    refine ⟨_, rfl, (by show 1 ≤ sizeLine; decide), fun r nr => ?_⟩
    rw [ap_sd c1 c2] at k
    have pD : p ≠ DD := (ne_of M1.dem hp (by intro z; cases z)).symm
    have ch : Changed C CM H (fpOf p L DD B as) p { m with demand := m.demand.set n u } (upd H DD (.lst ((m.demand.set n u).map natV))) :=
      Changed.upd_list (fp' := fpOf p L DD B as) (Same.refl _) (by unfold fpOf; simp) ⟨L, DD, B, as, rfl, ⟨⟨dx, by rw [upd_ne pD]; exact hp⟩, by rw [upd_ne M1.ld]; exact M1.lst, M1.lots.other M1.dem, upd_same, by rw [upd_ne M1.db.symm]; exact M1.bgt, M1.nd, M1.ld, M1.lb, M1.db, M1.pa⟩⟩ fun _ z => .inl z
    refine k _ r (ch.same (same_new nr)) (ch.free nr) ?_
    rw [upd_same, ans_single]
    have e : Kh432.elementAt m.demand n = m.demand[n] := by
      unfold Kh432.elementAt
      rw [List.getD_eq_getElem?_getD, gd]
      rfl
    rw [e]
    rfl
theorem ok_d5 {f : Addr} {fd : FuncData} (F : Fun K "buy_set" "buy_set" sD5 f fd) (D1 : Def P w K mg base "is_set" 2 ["market", "mask"] (spIsSet C CM)) (D2 : Def P w K mg base "buyers_needed" 3 ["lots"] (spL1 K C need)) (D3 : Def P w K mg base "lots_in" 2 ["market", "mask"] (spIn C CM))
    (D4 : Def P w K mg base "buy" 4 ["market", "mask"] (spBuy C CM)) : FnOk P w K mg base CX0 5 f fd ["market", "numbers"] (spDeed K C CM 5) := by
  refine F.ok scD5 (fun vs H Q E h => ?_) (fun cdv A outer s H vs Q E hr h => ?_)
  · obtain ⟨p, a, m, fp, xs, rfl, _⟩ := h
    rfl
  · obtain ⟨p, a, m, fp, xs, rfl, M, hg, hS, hl, k⟩ := h
    obtain ⟨n, rfl⟩ := one hl
    have hr2 : Room 2 _ := hr.mono (by decide)
    have hr3 : Room 3 _ := hr.mono (by decide)
    have hn := hg.1
    refine ⟨_, pss_cons (ps_if (pt_not (pt_val (pe_def D1 hr2 rfl (pa_cons (pv 0) (pa_cons (pe_ix ix_list (pv 1) pe_int (fun _ _ => rfl)) pa_nil))))) (pss_one (ps_ret (pe_lst (pa_cons (pe_un un_neg pe_int) pa_nil)))) pss_nil)
      (pss_cons (ps_if (pt_cmpR op_gt (pe_def D2 hr3 rfl (pa_cons (pe_def D3 hr2 rfl (pa_cons (pv 0) (pa_cons (pe_ix ix_list (pv 1) pe_int (fun _ _ => rfl)) pa_nil))) pa_nil)) pe_int (nomark _)) (pss_one (ps_ret (pe_lst (pa_cons (pe_un un_neg pe_int) pa_nil)))) pss_nil)
      (pss_one (ps_ret (pe_lst (pa_cons (pe_def D4 hr rfl (pa_cons (pv 0) (pa_cons (pe_ix ix_list (pv 1) pe_int (fun _ _ => rfl)) pa_nil))) pa_nil))))), ?_⟩
    refine ⟨_, rfl, _, rfl, a, _, _, natV n, rfl, rfl, hS, at0, p, m, _, n, rfl, M, hn, _, rfl, ?_⟩
    refine if_of (d := !decide (n < 2 ^ m.lots.length)) rfl (fun c => ?_) (fun c => ?_)
    · have c := not_dec rfl c
      exact ⟨_, rfl, (by show 1 ≤ sizeLine; decide), fun r nr => fin_new M k (ap_buy_no c) H r (Same.refl _) nr⟩
    have c1 := not_dec' rfl c
    refine ⟨_, rfl, _, rfl, a, _, _, natV n, rfl, rfl, hS, at0, p, m, _, n, rfl, M, by omega, fun H1 r1 bs s1 n1 l1 hbs => ⟨r1, bs, lotsIn m n, rfl, SqL.of l1, hbs, Nat.le_trans (lotsIn_length m n) (by omega), fun H2 s2 => ⟨_, _, rfl, rfl, _, rfl, ?_⟩⟩⟩
    have s02 := s1.trans s2
    rw [need_is]
    refine if_of (dec_lt 1 _) (fun c => ?_) (fun c => ?_)
    · exact ⟨_, rfl, (by show 1 ≤ sizeLine; decide), fun r nr => fin_new M k (ap_buy_bad hg c1 (of_decide_eq_true c)) H2 r s02 nr⟩
    have c2 := of_decide_eq_false c
    rw [ap_buy hg c1 c2] at k
    refine ⟨_, rfl, _, rfl, a, _, _, natV n, rfl, rfl, s02.seq hS, at0, p, m, _, n, rfl, M.same s02, hg, fun H3 ch => ⟨(by show 1 ≤ sizeLine; decide), fun r nr => ?_⟩⟩
    have ch0 := Changed.pre s02 ch
    refine k _ r (ch0.same (same_new nr)) (ch0.free nr) ?_
    rw [upd_same, ans_single]
    rfl
theorem ok_d6 {f : Addr} {fd : FuncData} (F : Fun K "buy_cheapest" "buy_cheapest" sD6 f fd) (D1 : Def P w K mg base "are_buyers" 1 ["number"] spAre) (D2 : Def P w K mg base "cheapest" 5 ["market", "buyers"] (spCheap C CM)) (D3 : Def P w K mg base "plan_answer" 3 ["market", "mask"] (spPlanAns C CM))
    (D4 : Def P w K mg base "buy" 4 ["market", "mask"] (spBuy C CM)) : FnOk P w K mg base CX0 6 f fd ["market", "numbers"] (spDeed K C CM 6) := by
  refine F.ok scD6 (fun vs H Q E h => ?_) (fun cdv A outer s H vs Q E hr h => ?_)
  · obtain ⟨p, a, m, fp, xs, rfl, _⟩ := h
    rfl
  · obtain ⟨p, a, m, fp, xs, rfl, M, hg, hS, hl, k⟩ := h
    obtain ⟨n, rfl⟩ := one hl
    have hr1 : Room 1 _ := hr.mono (by decide)
    have hr3 : Room 3 _ := hr.mono (by decide)
    have hr4 : Room 4 _ := hr.mono (by decide)
    have hn := hg.1
    refine ⟨_, pss_cons (ps_if (pt_not (pt_val (pe_def D1 hr1 rfl (pa_cons (pe_ix ix_list (pv 1) pe_int (fun _ _ => rfl)) pa_nil)))) (pss_one (ps_ret (pe_lst (pa_cons (pe_un un_neg pe_int) pa_nil)))) pss_nil)
      (pss_cons (ps_set (i := 2) scD6.nd rfl (.inl rfl) (pe_def D2 hr rfl (pa_cons (pv 0) (pa_cons (pe_ix ix_list (pv 1) pe_int (fun _ _ => rfl)) pa_nil))))
      (pss_cons (ps_if (pt_cmpR op_lt (pv 2) pe_int (nomark _)) (pss_one (ps_ret (pe_lst (pa_cons (pe_un un_neg pe_int) pa_nil)))) pss_nil)
      (pss_cons (ps_set (i := 3) scD6.nd rfl (.inl rfl) (pe_def D3 hr3 rfl (pa_cons (pv 0) (pa_cons (pv 2) pa_nil))))
      (pss_cons (ps_expr (pe_def D4 hr4 rfl (pa_cons (pv 0) (pa_cons (pv 2) pa_nil))))
      (pss_one (ps_ret (pv 3))))))), ?_⟩
    refine ⟨_, rfl, a, _, _, natV n, rfl, rfl, hS, at0, n, rfl, _, rfl, ?_⟩
    refine if_of (d := !Kh432.isBuyerCount n) rfl (fun c => ?_) (fun c => ?_)
    · have c : Kh432.isBuyerCount n = false := by simpa using c
      exact ⟨_, rfl, (by show 1 ≤ sizeLine; decide), fun r nr => fin_new M k (ap_bc_bad c) H r (Same.refl _) nr⟩
    have c1 : Kh432.isBuyerCount n = true := by simpa using c
    refine ⟨_, rfl, _, rfl, a, _, _, natV n, rfl, rfl, hS, at0, p, m, _, n, rfl, M, hg, fun H1 s1 => ⟨_, rfl, _, _, rfl, rfl, _, rfl, ?_⟩⟩
    refine if_of (enc_neg _) (fun c => ?_) (fun c => ?_)
    · have e : Kh432.cheapestPlan m n = none := by
        cases e : Kh432.cheapestPlan m n with
        | none => rfl
        | some x => rw [e] at c; cases c
      exact ⟨_, rfl, (by show 1 ≤ sizeLine; decide), fun r nr => fin_new M k (ap_bc_none c1 e) H1 r s1 nr⟩
    · cases e : Kh432.cheapestPlan m n with
      | none => rw [e] at c; cases c
      | some x =>
        rw [ap_bc c1 e] at k
        refine ⟨_, rfl, _, rfl, p, m, _, some x, rfl, M.same s1, hn, fun H2 r2 s2 n2 l2 => ?_⟩
        have s02 := s1.trans s2
        refine ⟨_, rfl, _, rfl, p, m, _, x, rfl, M.same s02, hg, fun H3 ch => ⟨_, rfl, ?_⟩⟩
        have nr : r2 ∉ fp := (M.same s1).not n2
        refine k H3 r2 (Changed.pre s02 ch) (s1.free n2) ?_
        obtain ⟨fp', _, _, h3, _⟩ := ch
        exact h3 _ _ l2 nr
end
end Lc
/-! part LcL -/
namespace Lc
open PySem PySem.Spec PyProof.Rows L2

abbrev sD7 : Stmt := top 43
theorem scD7 : FnScope ["market", "numbers", "first", "second"] ["market", "numbers"] (defScope sD7) := ⟨rfl, rfl, rfl, by decide +kernel, rfl, by decide +kernel, by decide +kernel⟩
abbrev sD8 : Stmt := top 44
theorem scD8 : FnScope ["market", "numbers"] ["market", "numbers"] (defScope sD8) := ⟨rfl, rfl, rfl, by decide +kernel, rfl, by decide +kernel, by decide +kernel⟩
abbrev sD9 : Stmt := top 45
theorem scD9 : FnScope ["market", "numbers"] ["market", "numbers"] (defScope sD9) := ⟨rfl, rfl, rfl, by decide +kernel, rfl, by decide +kernel, by decide +kernel⟩
abbrev sD10 : Stmt := top 46
theorem scD10 : FnScope ["market", "numbers", "parts"] ["market", "numbers"] (defScope sD10) := ⟨rfl, rfl, rfl, by decide +kernel, rfl, by decide +kernel, by decide +kernel⟩
abbrev sD11 : Stmt := top 47
theorem scD11 : FnScope ["market", "numbers"] ["market", "numbers"] (defScope sD11) := ⟨rfl, rfl, rfl, by decide +kernel, rfl, by decide +kernel, by decide +kernel⟩
abbrev sD12 : Stmt := top 48
theorem scD12 : FnScope ["market", "numbers", "some"] ["market", "numbers"] (defScope sD12) := ⟨rfl, rfl, rfl, by decide +kernel, rfl, by decide +kernel, by decide +kernel⟩
abbrev sD13 : Stmt := top 49
theorem scD13 : FnScope ["market", "numbers"] ["market", "numbers"] (defScope sD13) := ⟨rfl, rfl, rfl, by decide +kernel, rfl, by decide +kernel, by decide +kernel⟩
abbrev sD14 : Stmt := top 50
theorem scD14 : FnScope ["market", "numbers"] ["market", "numbers"] (defScope sD14) := ⟨rfl, rfl, rfl, by decide +kernel, rfl, by decide +kernel, by decide +kernel⟩
theorem assignment_len {m : Kh432.Market} (h : m.lots.length ≤ 7) (mask : Nat) : (Kh432.assignment m mask).length ≤ 7 := by
  rw [← asg_is, ← (asg_len m (Kh432.sortedByStart m mask)).1]
  have h1 := (asg_len m (Kh432.sortedByStart m mask)).2
  have h2 := sorted_length m mask
  omega
theorem shortL_len (ls : List Kh432.Lot) (dem : List Nat) : (shortL ls dem).length ≤ 3 := by
  unfold shortL
  rw [List.length_map, List.length_zip, byKind_len]
  omega
section
variable {P : Program} {w : World} {K : PySem.W.Frag} {mg : Str → Option Value} {base : Heap} {C CM : Addr}
theorem ok_d7 {f : Addr} {fd : FuncData} (F : Fun K "tell_overlap" "tell_overlap" sD7 f fd) (T : Txt K mg C CM) (D1 : Def P w K mg base "has_lot" 1 ["market", "number"] (spHas C CM)) (D2 : Def P w K mg base "overlap" 2 ["one", "other"] (spOver C)) : FnOk P w K mg base CX0 3 f fd ["market", "numbers"] (spDeed K C CM 7) := by
  refine F.ok scD7 (fun vs H Q E h => ?_) (fun cdv A outer s H vs Q E hr h => ?_)
  · obtain ⟨p, a, m, fp, xs, rfl, _⟩ := h
    rfl
  · obtain ⟨p, a, m, fp, xs, rfl, M, hg, hS, hl, k⟩ := h
    obtain ⟨i, j, rfl⟩ := two hl
    have hr1 : Room 1 _ := hr.mono (by decide)
    have M0 := M
    obtain ⟨L, DD, B, as, rfl, M1⟩ := M
    obtain ⟨dx, hp⟩ := M1.ins
    refine ⟨_, pss_cons (ps_asg (pv 1) (pg_unl rfl (pgs_cons (pg_name (i := 2) scD7.nd rfl (.inl rfl)) (pgs_cons (pg_name (i := 3) scD7.nd rfl (.inl rfl)) pgs_nil))))
      (pss_cons (ps_if (PW.pt (pw_or (pt_not (pt_val (pe_def D1 hr1 rfl (pa_cons (pv 0) (pa_cons (pv 2) pa_nil))))) (pw_or1 (pt_not (pt_val (pe_def D1 hr1 rfl (pa_cons (pv 0) (pa_cons (pv 3) pa_nil)))))))) (pss_one (ps_ret (pe_lst (pa_cons (pe_un un_neg pe_int) pa_nil)))) pss_nil)
      (pss_one (ps_ret (pe_lst (pa_cons (pe_ifExp (PW.pt (pw_and (pt_cmpR op_ne (pv 2) (pv 3) (nomark _)) (pw_and1 (pt_val (pe_def D2 hr rfl (pa_cons (pe_ix ix_list (pe_fld (pv 0) rfl) (pv 2) (fun _ _ => rfl)) (pa_cons (pe_ix ix_list (pe_fld (pv 0) rfl) (pv 3) (fun _ _ => rfl)) pa_nil))))))) pe_int pe_int) pa_nil))))), ?_⟩
    refine ⟨_, rfl, a, _, rfl, hS, rfl, _, _, rfl, _, _, rfl, rfl, ?_⟩
    have bad : ¬ (i < m.lots.length ∧ j < m.lots.length) → ∀ r, H r = none → Q (.ref r) (upd H r (.lst [.int (-2)])) := fun z r n => fin_new M0 k (ap_ov_no z) H r (Same.refl _) n
    refine ⟨_, rfl, _, rfl, p, m, _, i, rfl, M0, _, rfl, ?_⟩
    refine if_of (d := !decide (i < m.lots.length)) rfl (fun c => ?_) (fun c => ?_)
    · have c := not_dec rfl c
      exact if_of rfl (fun _ => ⟨_, rfl, (by show 1 ≤ sizeLine; decide), fun r n => bad (fun z => c z.1) r n⟩) (fun z => nomatch z)
    have c1 := not_dec' rfl c
    refine ⟨_, rfl, _, rfl, p, m, _, j, rfl, M0, _, rfl, ?_⟩
    refine if_of (d := !decide (j < m.lots.length)) rfl (fun c => ?_) (fun c => ?_)
    · have c := not_dec rfl c
      exact ⟨_, rfl, (by show 1 ≤ sizeLine; decide), fun r n => bad (fun z => c z.2) r n⟩
    have c2 := not_dec' rfl c
    have fin : ∀ r, H r = none → Q (.ref r) (upd H r (.lst [.int (if Kh432.overlap m i j then 1 else 0)])) := fun r n => fin_new M0 k (ap_ov c1 c2) H r (Same.refl _) n
    have eo : Kh432.overlap m i j = (decide (i ≠ j) && overL (Kh432.lotAt m i) (Kh432.lotAt m j)) := by
      unfold Kh432.overlap overL
      congr 1
      rw [Bool.eq_iff_iff, bne_iff_ne, decide_eq_true_eq]
    have en : (!decide (natV i = natV j)) = decide (i ≠ j) := by
      by_cases c : i = j
      · rw [c]
        simp
      · have c2 : ¬ natV i = natV j := fun z => c (by
          unfold natV at z
          injection z with z
          omega)
        simp [c, c2]
    refine ⟨_, rfl, _, rfl, rfl, _, rfl, ?_⟩
    refine if_of en (fun c => ?_) (fun c => ?_)
    · rw [c, Bool.true_and] at eo
      obtain ⟨x, hx, lx⟩ := M1.lots.get (List.getElem?_eq_getElem c1)
      obtain ⟨y, hy, ly⟩ := M1.lots.get (List.getElem?_eq_getElem c2)
      rw [← lotAt_get (List.getElem?_eq_getElem c1)] at lx
      rw [← lotAt_get (List.getElem?_eq_getElem c2)] at ly
      refine ⟨_, rfl, p, CM, dx, _, _, rfl, hp, T.cm, T.mL, mF_lots _ _ _ _, _, rfl, L, _, _, V.ref x, rfl, rfl, SqL.of M1.lst, atI_nat (by rw [List.getElem?_map, hx]; rfl), _, rfl, p, CM, dx, _, _, rfl, hp, T.cm, T.mL, mF_lots _ _ _ _, _, rfl, L, _, _, V.ref y, rfl, rfl, SqL.of M1.lst, atI_nat (by rw [List.getElem?_map, hy]; rfl), x, y, _, _, rfl, lx, ly, _, rfl, ?_⟩
      refine if_of eo.symm (fun c3 => ?_) (fun c3 => ?_)
      · refine ⟨(by show 1 ≤ sizeLine; decide), fun r n => ?_⟩
        have q := fin r n
        rw [c3, if_pos rfl] at q
        exact q
      · refine ⟨(by show 1 ≤ sizeLine; decide), fun r n => ?_⟩
        have q := fin r n
        rw [c3, if_neg Bool.false_ne_true] at q
        exact q
    · rw [c, Bool.false_and] at eo
      refine if_of rfl (fun z => nomatch z) (fun _ => ⟨(by show 1 ≤ sizeLine; decide), fun r n => ?_⟩)
      have q := fin r n
      rw [eo, if_neg Bool.false_ne_true] at q
      exact q
theorem ok_d8 {f : Addr} {fd : FuncData} (F : Fun K "is_compatible" "is_compatible" sD8 f fd) (D1 : Def P w K mg base "is_set" 2 ["market", "mask"] (spIsSet C CM)) (D2 : Def P w K mg base "buyers_needed" 3 ["lots"] (spL1 K C need)) (D3 : Def P w K mg base "lots_in" 2 ["market", "mask"] (spIn C CM)) :
    FnOk P w K mg base CX0 4 f fd ["market", "numbers"] (spDeed K C CM 8) := by
  refine F.ok scD8 (fun vs H Q E h => ?_) (fun cdv A outer s H vs Q E hr h => ?_)
  · obtain ⟨p, a, m, fp, xs, rfl, _⟩ := h
    rfl
  · obtain ⟨p, a, m, fp, xs, rfl, M, hg, hS, hl, k⟩ := h
    obtain ⟨n, rfl⟩ := one hl
    have hr2 : Room 2 _ := hr.mono (by decide)
    have hn := hg.1
    refine ⟨_, pss_cons (ps_if (pt_not (pt_val (pe_def D1 hr2 rfl (pa_cons (pv 0) (pa_cons (pe_ix ix_list (pv 1) pe_int (fun _ _ => rfl)) pa_nil))))) (pss_one (ps_ret (pe_lst (pa_cons (pe_un un_neg pe_int) pa_nil)))) pss_nil)
      (pss_one (ps_ret (pe_lst (pa_cons (pe_ifExp (pt_cmpR op_le (pe_def D2 hr rfl (pa_cons (pe_def D3 hr2 rfl (pa_cons (pv 0) (pa_cons (pe_ix ix_list (pv 1) pe_int (fun _ _ => rfl)) pa_nil))) pa_nil)) pe_int (nomark _)) pe_int pe_int) pa_nil)))), ?_⟩
    refine ⟨_, rfl, _, rfl, a, _, _, natV n, rfl, rfl, hS, at0, p, m, _, n, rfl, M, hn, _, rfl, ?_⟩
    refine if_of (d := !decide (n < 2 ^ m.lots.length)) rfl (fun c => ?_) (fun c => ?_)
    · have c := not_dec rfl c
      exact ⟨_, rfl, (by show 1 ≤ sizeLine; decide), fun r nr => fin_new M k (ap_set_no (by decide) c) H r (Same.refl _) nr⟩
    have c1 := not_dec' rfl c
    refine ⟨_, rfl, _, rfl, a, _, _, natV n, rfl, rfl, hS, at0, p, m, _, n, rfl, M, by omega, fun H1 r1 bs s1 n1 l1 hbs => ⟨r1, bs, lotsIn m n, rfl, SqL.of l1, hbs, Nat.le_trans (lotsIn_length m n) (by omega), fun H2 s2 => ⟨_, _, rfl, rfl, _, rfl, ?_⟩⟩⟩
    have s02 := s1.trans s2
    have fin : ∀ r, H2 r = none → Q (.ref r) (upd H2 r (.lst [.int (if Kh432.buyersNeeded m n ≤ 1 then 1 else 0)])) := fun r nr => fin_new M k (ap_co hg c1) H2 r s02 nr
    rw [need_is]
    refine if_of (dec_le _ 1) (fun c => ?_) (fun c => ?_)
    · refine ⟨(by show 1 ≤ sizeLine; decide), fun r nr => ?_⟩
      have q := fin r nr
      rw [if_pos (of_decide_eq_true c)] at q
      exact q
    · refine ⟨(by show 1 ≤ sizeLine; decide), fun r nr => ?_⟩
      have q := fin r nr
      rw [if_neg (of_decide_eq_false c)] at q
      exact q
theorem ok_d9 {f : Addr} {fd : FuncData} (F : Fun K "tell_buyers_needed" "tell_buyers_needed" sD9 f fd) (D1 : Def P w K mg base "is_set" 2 ["market", "mask"] (spIsSet C CM)) (D2 : Def P w K mg base "buyers_needed" 3 ["lots"] (spL1 K C need)) (D3 : Def P w K mg base "lots_in" 2 ["market", "mask"] (spIn C CM)) :
    FnOk P w K mg base CX0 4 f fd ["market", "numbers"] (spDeed K C CM 9) := by
  refine F.ok scD9 (fun vs H Q E h => ?_) (fun cdv A outer s H vs Q E hr h => ?_)
  · obtain ⟨p, a, m, fp, xs, rfl, _⟩ := h
    rfl
  · obtain ⟨p, a, m, fp, xs, rfl, M, hg, hS, hl, k⟩ := h
    obtain ⟨n, rfl⟩ := one hl
    have hr2 : Room 2 _ := hr.mono (by decide)
    have hn := hg.1
    refine ⟨_, pss_one (ps_ret (pe_ifExp (pt_val (pe_def D1 hr2 rfl (pa_cons (pv 0) (pa_cons (pe_ix ix_list (pv 1) pe_int (fun _ _ => rfl)) pa_nil))))
      (pe_lst (pa_cons (pe_def D2 hr rfl (pa_cons (pe_def D3 hr2 rfl (pa_cons (pv 0) (pa_cons (pe_ix ix_list (pv 1) pe_int (fun _ _ => rfl)) pa_nil))) pa_nil)) pa_nil))
      (pe_lst (pa_cons (pe_un un_neg pe_int) pa_nil)))), ?_⟩
    refine ⟨_, rfl, _, rfl, a, _, _, natV n, rfl, rfl, hS, at0, p, m, _, n, rfl, M, hn, _, rfl, ?_⟩
    refine if_of rfl (fun c => ?_) (fun c => ?_)
    · have c1 := of_decide_eq_true c
      refine ⟨_, rfl, _, rfl, a, _, _, natV n, rfl, rfl, hS, at0, p, m, _, n, rfl, M, by omega, fun H1 r1 bs s1 n1 l1 hbs => ⟨r1, bs, lotsIn m n, rfl, SqL.of l1, hbs, Nat.le_trans (lotsIn_length m n) (by omega), fun H2 s2 => ⟨(by show 1 ≤ sizeLine; decide), fun r nr => ?_⟩⟩⟩
      rw [need_is]
      exact fin_new M k (ap_bn c1) H2 r (s1.trans s2) nr
    · exact ⟨_, rfl, (by show 1 ≤ sizeLine; decide), fun r nr => fin_new M k (ap_set_no (by decide) (of_decide_eq_false c)) H r (Same.refl _) nr⟩
theorem ok_d10 {f : Addr} {fd : FuncData} (F : Fun K "assign_buyers" "assign_buyers" sD10 f fd) (T : Txt K mg C CM) (D1 : Def P w K mg base "is_set" 2 ["market", "mask"] (spIsSet C CM)) (D2 : Def P w K mg base "assignment" 2 ["market", "mask"] (spAsg C CM)) :
    FnOk P w K mg base CX0 3 f fd ["market", "numbers"] (spDeed K C CM 10) := by
  refine F.ok scD10 (fun vs H Q E h => ?_) (fun cdv A outer s H vs Q E hr h => ?_)
  · obtain ⟨p, a, m, fp, xs, rfl, _⟩ := h
    rfl
  · obtain ⟨p, a, m, fp, xs, rfl, M, hg, hS, hl, k⟩ := h
    obtain ⟨n, rfl⟩ := one hl
    have hn := hg.1
    refine ⟨_, pss_cons (ps_if (pt_not (pt_val (pe_def D1 hr rfl (pa_cons (pv 0) (pa_cons (pe_ix ix_list (pv 1) pe_int (fun _ _ => rfl)) pa_nil))))) (pss_one (ps_ret (pe_lst (pa_cons (pe_un un_neg pe_int) pa_nil)))) pss_nil)
      (pss_cons (ps_set (i := 2) scD10.nd rfl (.inl rfl) (pe_def D2 hr rfl (pa_cons (pv 0) (pa_cons (pe_ix ix_list (pv 1) pe_int (fun _ _ => rfl)) pa_nil))))
      (pss_one (ps_ret (pe_op op_cat (pe_lst (pa_cons (pe_callB call_len_seq (by rfl) T.len PySem.boot_len (pa_cons (pv 2) pa_nil)) pa_nil)) (pv 2))))), ?_⟩
    refine ⟨_, rfl, _, rfl, a, _, _, natV n, rfl, rfl, hS, at0, p, m, _, n, rfl, M, hn, _, rfl, ?_⟩
    refine if_of (d := !decide (n < 2 ^ m.lots.length)) rfl (fun c => ?_) (fun c => ?_)
    · have c := not_dec rfl c
      exact ⟨_, rfl, (by show 1 ≤ sizeLine; decide), fun r nr => fin_new M k (ap_set_no (by decide) c) H r (Same.refl _) nr⟩
    have c1 := not_dec' rfl c
    refine ⟨_, rfl, _, rfl, a, _, _, natV n, rfl, rfl, hS, at0, p, m, _, n, rfl, M, hn, fun H1 r1 s1 n1 l1 => ?_⟩
    refine ⟨_, rfl, _, _, rfl, .inl (SqL.of l1), (by show 1 ≤ sizeLine; decide), fun r2 n2 => ?_⟩
    have s2 := same_upd (o := .lst [V.int ((((Kh432.assignment m n).map natV).length : Nat) : Int)]) s1 (s1.free n2)
    refine ⟨_, rfl, r2, r1, _, _, rfl, rfl, upd_same, by rw [upd_ne (ne_of_none l1 n2)]; exact l1, ?_, fun r nr => ?_⟩
    · rw [List.length_map]
      have := assignment_len hn n
      exact line _ (by rw [List.length_singleton]; omega)
    · have q := fin_new M k (ap_as c1) _ r s2 nr
      rw [ans_values] at q
      rw [List.length_map] at q ⊢
      exact q
theorem ok_d11 {f : Addr} {fd : FuncData} (F : Fun K "tell_shortfall" "tell_shortfall" sD11 f fd) (T : Txt K mg C CM) (D1 : Def P w K mg base "is_set" 2 ["market", "mask"] (spIsSet C CM)) (D2 : Def P w K mg base "shortfall" 3 ["lots", "demand"] (spShort K C)) (D3 : Def P w K mg base "lots_in" 2 ["market", "mask"] (spIn C CM)) :
    FnOk P w K mg base CX0 4 f fd ["market", "numbers"] (spDeed K C CM 11) := by
  refine F.ok scD11 (fun vs H Q E h => ?_) (fun cdv A outer s H vs Q E hr h => ?_)
  · obtain ⟨p, a, m, fp, xs, rfl, _⟩ := h
    rfl
  · obtain ⟨p, a, m, fp, xs, rfl, M, hg, hS, hl, k⟩ := h
    obtain ⟨n, rfl⟩ := one hl
    have hr2 : Room 2 _ := hr.mono (by decide)
    have hn := hg.1
    refine ⟨_, pss_cons (ps_if (pt_not (pt_val (pe_def D1 hr2 rfl (pa_cons (pv 0) (pa_cons (pe_ix ix_list (pv 1) pe_int (fun _ _ => rfl)) pa_nil))))) (pss_one (ps_ret (pe_lst (pa_cons (pe_un un_neg pe_int) pa_nil)))) pss_nil)
      (pss_one (ps_ret (pe_op op_cat (pe_lst (pa_cons (pe_const T.kinds rfl) pa_nil)) (pe_def D2 hr rfl (pa_cons (pe_def D3 hr2 rfl (pa_cons (pv 0) (pa_cons (pe_ix ix_list (pv 1) pe_int (fun _ _ => rfl)) pa_nil))) (pa_cons (pe_fld (pv 0) rfl) pa_nil)))))), ?_⟩
    refine ⟨_, rfl, _, rfl, a, _, _, natV n, rfl, rfl, hS, at0, p, m, _, n, rfl, M, hn, _, rfl, ?_⟩
    refine if_of (d := !decide (n < 2 ^ m.lots.length)) rfl (fun c => ?_) (fun c => ?_)
    · have c := not_dec rfl c
      exact ⟨_, rfl, (by show 1 ≤ sizeLine; decide), fun r nr => fin_new M k (ap_set_no (by decide) c) H r (Same.refl _) nr⟩
    have c1 := not_dec' rfl c
    refine ⟨(by show 1 ≤ sizeLine; decide), fun r1 n1 => ?_⟩
    have s1 := same_new (o := .lst [V.int 3]) n1
    refine ⟨_, rfl, _, rfl, a, _, _, natV n, rfl, rfl, s1.seq hS, at0, p, m, _, n, rfl, M.same s1, by omega, fun H2 r2 bs s2 n2 l2 hbs => ?_⟩
    have s02 := s1.trans s2
    have M2 := M.same s02
    obtain ⟨L, DD, B, as, rfl, M1⟩ := M2
    obtain ⟨dx, hp⟩ := M1.ins
    refine ⟨_, rfl, p, CM, dx, _, _, rfl, hp, T.cm, T.mD, mF_dem _ _ _ _, r2, bs, lotsIn m n, DD, m.demand, rfl, SqL.of l2, hbs, Nat.le_trans (lotsIn_length m n) (by omega), SqL.of M1.dem, fun H3 r3 s3 n3 l3 => ?_⟩
    have h1 := s3 _ _ (s2 _ _ (upd_same (H := H) (a := r1) (o := .lst [V.int 3])))
    refine ⟨r1, r3, _, _, rfl, rfl, h1, l3, ?_, fun r nr => ?_⟩
    · rw [List.length_map]
      have := shortL_len (lotsIn m n) m.demand
      exact line _ (by rw [List.length_singleton]; omega)
    · have q := fin_new M k (ap_sf hg c1) _ r (s02.trans s3) nr
      rw [ans_values] at q
      exact q
theorem ok_d12 {f : Addr} {fd : FuncData} (F : Fun K "evaluate" "evaluate" sD12 f fd) (D1 : Def P w K mg base "is_set" 2 ["market", "mask"] (spIsSet C CM)) (D3 : Def P w K mg base "lots_in" 2 ["market", "mask"] (spIn C CM)) (D4 : Def P w K mg base "cost_of" 1 ["lots"] (spL1 K C costOf))
    (D5 : Def P w K mg base "units_of" 1 ["lots"] (spL1 K C unitsOf)) (D6 : Def P w K mg base "last_end" 2 ["lots"] (spL1 K C lastEnd)) : FnOk P w K mg base CX0 3 f fd ["market", "numbers"] (spDeed K C CM 12) := by
  refine F.ok scD12 (fun vs H Q E h => ?_) (fun cdv A outer s H vs Q E hr h => ?_)
  · obtain ⟨p, a, m, fp, xs, rfl, _⟩ := h
    rfl
  · obtain ⟨p, a, m, fp, xs, rfl, M, hg, hS, hl, k⟩ := h
    obtain ⟨n, rfl⟩ := one hl
    have hr1 : Room 1 _ := hr.mono (by decide)
    have hn := hg.1
    refine ⟨_, pss_cons (ps_if (pt_not (pt_val (pe_def D1 hr rfl (pa_cons (pv 0) (pa_cons (pe_ix ix_list (pv 1) pe_int (fun _ _ => rfl)) pa_nil))))) (pss_one (ps_ret (pe_lst (pa_cons (pe_un un_neg pe_int) pa_nil)))) pss_nil)
      (pss_cons (ps_set (i := 2) scD12.nd rfl (.inl rfl) (pe_def D3 hr rfl (pa_cons (pv 0) (pa_cons (pe_ix ix_list (pv 1) pe_int (fun _ _ => rfl)) pa_nil))))
      (pss_one (ps_ret (pe_lst (pa_cons (pe_def D4 hr1 rfl (pa_cons (pv 2) pa_nil)) (pa_cons (pe_def D5 hr1 rfl (pa_cons (pv 2) pa_nil)) (pa_cons (pe_def D6 hr rfl (pa_cons (pv 2) pa_nil)) pa_nil))))))), ?_⟩
    refine ⟨_, rfl, _, rfl, a, _, _, natV n, rfl, rfl, hS, at0, p, m, _, n, rfl, M, hn, _, rfl, ?_⟩
    refine if_of (d := !decide (n < 2 ^ m.lots.length)) rfl (fun c => ?_) (fun c => ?_)
    · have c := not_dec rfl c
      exact ⟨_, rfl, (by show 1 ≤ sizeLine; decide), fun r nr => fin_new M k (ap_set_no (by decide) c) H r (Same.refl _) nr⟩
    have c1 := not_dec' rfl c
    have hlen : (lotsIn m n).length ≤ 1000 := Nat.le_trans (lotsIn_length m n) (by omega)
    refine ⟨_, rfl, _, rfl, a, _, _, natV n, rfl, rfl, hS, at0, p, m, _, n, rfl, M, by omega, fun H1 r1 bs s1 n1 l1 hbs => ?_⟩
    refine ⟨_, rfl, r1, bs, lotsIn m n, rfl, SqL.of l1, hbs, hlen, fun H2 s2 => ⟨_, rfl, r1, bs, lotsIn m n, rfl, SqL.of (s2 _ _ l1), hbs.same s2, hlen, fun H3 s3 => ⟨_, rfl, r1, bs, lotsIn m n, rfl, SqL.of (s3 _ _ (s2 _ _ l1)), (hbs.same s2).same s3, hlen, fun H4 s4 => ⟨(by show 3 ≤ sizeLine; decide), fun r nr => ?_⟩⟩⟩⟩
    have q := fin_new M k (ap_ev c1) _ r (((s1.trans s2).trans s3).trans s4) nr
    rw [ans_values, ← cost_is, ← units_is, ← end_is] at q
    exact q
theorem ok_d13 {f : Addr} {fd : FuncData} (F : Fun K "cheapest_plan" "cheapest_plan" sD13 f fd) (D1 : Def P w K mg base "are_buyers" 1 ["number"] spAre) (D2 : Def P w K mg base "cheapest" 5 ["market", "buyers"] (spCheap C CM)) (D3 : Def P w K mg base "plan_answer" 3 ["market", "mask"] (spPlanAns C CM)) :
    FnOk P w K mg base CX0 6 f fd ["market", "numbers"] (spDeed K C CM 13) := by
  refine F.ok scD13 (fun vs H Q E h => ?_) (fun cdv A outer s H vs Q E hr h => ?_)
  · obtain ⟨p, a, m, fp, xs, rfl, _⟩ := h
    rfl
  · obtain ⟨p, a, m, fp, xs, rfl, M, hg, hS, hl, k⟩ := h
    obtain ⟨n, rfl⟩ := one hl
    have hr1 : Room 1 _ := hr.mono (by decide)
    have hr3 : Room 3 _ := hr.mono (by decide)
    have hn := hg.1
    refine ⟨_, pss_one (ps_ret (pe_ifExp (pt_val (pe_def D1 hr1 rfl (pa_cons (pe_ix ix_list (pv 1) pe_int (fun _ _ => rfl)) pa_nil)))
      (pe_def D3 hr3 rfl (pa_cons (pv 0) (pa_cons (pe_def D2 hr rfl (pa_cons (pv 0) (pa_cons (pe_ix ix_list (pv 1) pe_int (fun _ _ => rfl)) pa_nil))) pa_nil)))
      (pe_lst (pa_cons (pe_un un_neg pe_int) pa_nil)))), ?_⟩
    refine ⟨_, rfl, a, _, _, natV n, rfl, rfl, hS, at0, n, rfl, _, rfl, ?_⟩
    refine if_of rfl (fun c => ?_) (fun c => ?_)
    · refine ⟨_, rfl, _, rfl, _, rfl, a, _, _, natV n, rfl, rfl, hS, at0, p, m, _, n, rfl, M, hg, fun H1 s1 => ⟨p, m, _, _, rfl, M.same s1, hn, fun H2 r2 s2 n2 l2 => ?_⟩⟩
      exact fin_same M k (ap_cp c) H2 r2 (s1.trans s2) (s1.free n2) l2
    · exact ⟨_, rfl, (by show 1 ≤ sizeLine; decide), fun r nr => fin_new M k (ap_b_bad (by decide) c) H r (Same.refl _) nr⟩
theorem ok_d14 {f : Addr} {fd : FuncData} (F : Fun K "count_plans" "count_plans" sD14 f fd) (T : Txt K mg C CM) (D1 : Def P w K mg base "are_buyers" 1 ["number"] spAre) (D2 : Def P w K mg base "plans" 4 ["market", "buyers", "demand"] (spPlans K C CM)) :
    FnOk P w K mg base CX0 5 f fd ["market", "numbers"] (spDeed K C CM 14) := by
  refine F.ok scD14 (fun vs H Q E h => ?_) (fun cdv A outer s H vs Q E hr h => ?_)
  · obtain ⟨p, a, m, fp, xs, rfl, _⟩ := h
    rfl
  · obtain ⟨p, a, m, fp, xs, rfl, M, hg, hS, hl, k⟩ := h
    obtain ⟨n, rfl⟩ := one hl
    have hr1 : Room 1 _ := hr.mono (by decide)
    have hn := hg.1
    have M0 := M
    obtain ⟨L, DD, B, as, rfl, M1⟩ := M
    obtain ⟨dx, hp⟩ := M1.ins
    refine ⟨_, pss_one (ps_ret (pe_ifExp (pt_val (pe_def D1 hr1 rfl (pa_cons (pe_ix ix_list (pv 1) pe_int (fun _ _ => rfl)) pa_nil)))
      (pe_lst (pa_cons (pe_callB call_len_seq (by rfl) T.len PySem.boot_len (pa_cons (pe_def D2 hr rfl (pa_cons (pv 0) (pa_cons (pe_ix ix_list (pv 1) pe_int (fun _ _ => rfl)) (pa_cons (pe_fld (pv 0) rfl) pa_nil)))) pa_nil)) pa_nil))
      (pe_lst (pa_cons (pe_un un_neg pe_int) pa_nil)))), ?_⟩
    refine ⟨_, rfl, a, _, _, natV n, rfl, rfl, hS, at0, n, rfl, _, rfl, ?_⟩
    refine if_of rfl (fun c => ?_) (fun c => ?_)
    · refine ⟨_, rfl, _, rfl, a, _, _, natV n, rfl, rfl, hS, at0, _, rfl, p, CM, dx, _, _, rfl, hp, T.cm, T.mD, mF_dem _ _ _ _, p, m, _, n, DD, m.demand, rfl, M0, hn, SqL.of M1.dem, fun H1 r1 s1 n1 l1 => ⟨_, _, rfl, .inl (SqL.of l1), (by show 1 ≤ sizeLine; decide), fun r nr => ?_⟩⟩
      rw [List.length_map]
      exact fin_new M0 k (ap_ct hg c) _ r s1 nr
    · exact ⟨_, rfl, (by show 1 ≤ sizeLine; decide), fun r nr => fin_new M0 k (ap_b_bad (by decide) c) H r (Same.refl _) nr⟩
end
end Lc
/-! part LcM -/
namespace Lc
open PySem PySem.Spec PyProof.Rows L2

abbrev sD15 : Stmt := top 51
theorem scD15 : FnScope ["market", "numbers", "buyers", "budget", "mask", "some"] ["market", "numbers"] (defScope sD15) := ⟨rfl, rfl, rfl, by decide +kernel, rfl, by decide +kernel, by decide +kernel⟩
abbrev sD16 : Stmt := top 52
theorem scD16 : FnScope ["market", "numbers", "mask"] ["market", "numbers"] (defScope sD16) := ⟨rfl, rfl, rfl, by decide +kernel, rfl, by decide +kernel, by decide +kernel⟩
abbrev sD17 : Stmt := top 53
theorem scD17 : FnScope ["market", "numbers", "buyers", "number"] ["market", "numbers"] (defScope sD17) := ⟨rfl, rfl, rfl, by decide +kernel, rfl, by decide +kernel, by decide +kernel⟩
abbrev sD18 : Stmt := top 54
theorem scD18 : FnScope ["market", "numbers", "buyers", "kind", "units", "demand"] ["market", "numbers"] (defScope sD18) := ⟨rfl, rfl, rfl, by decide +kernel, rfl, by decide +kernel, by decide +kernel⟩
abbrev sD19 : Stmt := top 55
theorem scD19 : FnScope ["market", "numbers", "two", "one"] ["market", "numbers"] (defScope sD19) := ⟨rfl, rfl, rfl, by decide +kernel, rfl, by decide +kernel, by decide +kernel⟩
abbrev sD20 : Stmt := top 56
theorem scD20 : FnScope ["market", "numbers", "most", "starts", "lot"] ["market", "numbers"] (defScope sD20) := ⟨rfl, rfl, rfl, by decide +kernel, rfl, by decide +kernel, by decide +kernel⟩
abbrev sD21 : Stmt := top 57
theorem scD21 : FnScope ["market", "numbers", "found", "lot"] ["market", "numbers"] (defScope sD21) := ⟨rfl, rfl, rfl, by decide +kernel, rfl, by decide +kernel, by decide +kernel⟩
abbrev sD22 : Stmt := top 58
theorem scD22 : FnScope ["market", "numbers"] ["market", "numbers"] (defScope sD22) := ⟨rfl, rfl, rfl, by decide +kernel, rfl, by decide +kernel, by decide +kernel⟩
abbrev sD23 : Stmt := top 59
theorem scD23 : FnScope ["market", "numbers"] ["market", "numbers"] (defScope sD23) := ⟨rfl, rfl, rfl, by decide +kernel, rfl, by decide +kernel, by decide +kernel⟩
theorem cut_set {dem : List Nat} (h : dem.length = 3) {k : Nat} (hk : ¬ 3 ≤ k) (u : Nat) : cutV (dem.map natV) none (some (k : Int)) ++ [natV u] ++ cutV (dem.map natV) (some ((k : Int) + 1)) none = (dem.set k u).map natV := by
  obtain ⟨a, b, c, rfl⟩ := three h
  have : k = 0 ∨ k = 1 ∨ k = 2 := by omega
  rcases this with rfl | rfl | rfl <;> rfl
theorem cut_len (xs : List V) (lo hi : Option Int) : (cutV xs lo hi).length ≤ xs.length := cutV_length xs lo hi
section
variable {P : Program} {w : World} {K : PySem.W.Frag} {mg : Str → Option Value} {base : Heap} {C CM : Addr}
theorem ok_d15 {f : Addr} {fd : FuncData} (F : Fun K "max_units" "max_units" sD15 f fd) (D1 : Def P w K mg base "are_buyers" 1 ["number"] spAre) (D2 : Def P w K mg base "most_units" 4 ["market", "buyers", "budget"] (spMost C CM)) (D3 : Def P w K mg base "lots_in" 2 ["market", "mask"] (spIn C CM))
    (D4 : Def P w K mg base "units_of" 1 ["lots"] (spL1 K C unitsOf)) (D5 : Def P w K mg base "cost_of" 1 ["lots"] (spL1 K C costOf)) (D6 : Def P w K mg base "indices" 2 ["market", "mask"] (spIdx C CM)) : FnOk P w K mg base CX0 5 f fd ["market", "numbers"] (spDeed K C CM 15) := by
  refine F.ok scD15 (fun vs H Q E h => ?_) (fun cdv A outer s H vs Q E hr h => ?_)
  · obtain ⟨p, a, m, fp, xs, rfl, _⟩ := h
    rfl
  · obtain ⟨p, a, m, fp, xs, rfl, M, hg, hS, hl, k⟩ := h
    obtain ⟨n, x, rfl⟩ := two hl
    have hr1 : Room 1 _ := hr.mono (by decide)
    have hr2 : Room 2 _ := hr.mono (by decide)
    have hn := hg.1
    refine ⟨_, pss_cons (ps_asg (pv 1) (pg_unl rfl (pgs_cons (pg_name (i := 2) scD15.nd rfl (.inl rfl)) (pgs_cons (pg_name (i := 3) scD15.nd rfl (.inl rfl)) pgs_nil))))
      (pss_cons (ps_if (PW.pt (pw_or (pt_not (pt_val (pe_def D1 hr1 rfl (pa_cons (pv 2) pa_nil)))) (pw_or1 (pt_cmpR op_gt (pv 3) pe_int (nomark _))))) (pss_one (ps_ret (pe_lst (pa_cons (pe_un un_neg pe_int) pa_nil)))) pss_nil)
      (pss_cons (ps_set (i := 4) scD15.nd rfl (.inl rfl) (pe_def D2 hr rfl (pa_cons (pv 0) (pa_cons (pv 2) (pa_cons (pv 3) pa_nil)))))
      (pss_cons (ps_set (i := 5) scD15.nd rfl (.inl rfl) (pe_def D3 hr2 rfl (pa_cons (pv 0) (pa_cons (pv 4) pa_nil))))
      (pss_one (ps_ret (pe_op op_cat (pe_lst (pa_cons (pe_def D4 hr1 rfl (pa_cons (pv 5) pa_nil)) (pa_cons (pe_def D5 hr1 rfl (pa_cons (pv 5) pa_nil)) pa_nil))) (pe_def D6 hr2 rfl (pa_cons (pv 0) (pa_cons (pv 4) pa_nil))))))))), ?_⟩
    refine ⟨_, rfl, a, _, rfl, hS, rfl, _, _, rfl, _, _, rfl, rfl, ?_⟩
    refine ⟨_, rfl, n, rfl, _, rfl, ?_⟩
    refine if_of (d := !Kh432.isBuyerCount n) rfl (fun c => ?_) (fun c => ?_)
    · have c : Kh432.isBuyerCount n = false := by simpa using c
      exact if_of rfl (fun _ => ⟨_, rfl, (by show 1 ≤ sizeLine; decide), fun r nr => fin_new M k (ap_mu_bad (.inl c)) H r (Same.refl _) nr⟩) (fun z => nomatch z)
    have c1 : Kh432.isBuyerCount n = true := by simpa using c
    refine ⟨_, rfl, _, _, rfl, rfl, _, rfl, ?_⟩
    refine if_of (dec_lt 9999 x) (fun c => ?_) (fun c => ?_)
    · exact ⟨_, rfl, (by show 1 ≤ sizeLine; decide), fun r nr => fin_new M k (ap_mu_bad (.inr (of_decide_eq_true c))) H r (Same.refl _) nr⟩
    have c2 := of_decide_eq_false c
    have e := ap_mu (m := m) c1 c2
    refine ⟨_, rfl, _, rfl, _, rfl, p, m, _, n, x, rfl, M, hn, fun H1 s1 => ?_⟩
    generalize Kh432.maxUnits m n x = mask at *
    have hlen : (lotsIn m mask).length ≤ 1000 := Nat.le_trans (lotsIn_length m mask) (by omega)
    refine ⟨_, rfl, _, rfl, p, m, _, mask, rfl, M.same s1, by omega, fun H2 r2 bs s2 n2 l2 hbs => ?_⟩
    refine ⟨_, rfl, r2, bs, lotsIn m mask, rfl, SqL.of l2, hbs, hlen, fun H3 s3 => ⟨_, rfl, r2, bs, lotsIn m mask, rfl, SqL.of (s3 _ _ l2), hbs.same s3, hlen, fun H4 s4 => ⟨(by show 2 ≤ sizeLine; decide), fun r5 n5 => ?_⟩⟩⟩
    have s04 := ((s1.trans s2).trans s3).trans s4
    have s5 := same_upd (o := .lst [natV (unitsOf (lotsIn m mask)), natV (costOf (lotsIn m mask))]) s04 (s04.free n5)
    refine ⟨_, rfl, _, rfl, p, m, _, mask, rfl, M.same s5, hn, fun H6 r6 s6 n6 l6 => ?_⟩
    have h5 := s6 _ _ (upd_same (H := H4) (a := r5) (o := .lst [natV (unitsOf (lotsIn m mask)), natV (costOf (lotsIn m mask))]))
    refine ⟨r5, r6, _, _, rfl, rfl, h5, l6, ?_, fun r nr => ?_⟩
    · rw [List.length_map]
      have := members_len hn mask
      exact line _ (by show 2 + _ ≤ _; omega)
    · have q := fin_new M k e _ r (s5.trans s6) nr
      rw [ans_values, ← units_is, ← cost_is] at q
      exact q
theorem ok_d16 {f : Addr} {fd : FuncData} (F : Fun K "earliest_plan" "earliest_plan" sD16 f fd) (D1 : Def P w K mg base "are_buyers" 1 ["number"] spAre) (D2 : Def P w K mg base "earliest" 5 ["market", "buyers"] (spEarl C CM)) (D3 : Def P w K mg base "lots_in" 2 ["market", "mask"] (spIn C CM))
    (D4 : Def P w K mg base "last_end" 2 ["lots"] (spL1 K C lastEnd)) (D6 : Def P w K mg base "indices" 2 ["market", "mask"] (spIdx C CM)) : FnOk P w K mg base CX0 6 f fd ["market", "numbers"] (spDeed K C CM 16) := by
  refine F.ok scD16 (fun vs H Q E h => ?_) (fun cdv A outer s H vs Q E hr h => ?_)
  · obtain ⟨p, a, m, fp, xs, rfl, _⟩ := h
    rfl
  · obtain ⟨p, a, m, fp, xs, rfl, M, hg, hS, hl, k⟩ := h
    obtain ⟨n, rfl⟩ := one hl
    have hr1 : Room 1 _ := hr.mono (by decide)
    have hr2 : Room 2 _ := hr.mono (by decide)
    have hn := hg.1
    refine ⟨_, pss_cons (ps_if (pt_not (pt_val (pe_def D1 hr1 rfl (pa_cons (pe_ix ix_list (pv 1) pe_int (fun _ _ => rfl)) pa_nil)))) (pss_one (ps_ret (pe_lst (pa_cons (pe_un un_neg pe_int) pa_nil)))) pss_nil)
      (pss_cons (ps_set (i := 2) scD16.nd rfl (.inl rfl) (pe_def D2 hr rfl (pa_cons (pv 0) (pa_cons (pe_ix ix_list (pv 1) pe_int (fun _ _ => rfl)) pa_nil))))
      (pss_one (ps_ret (pe_ifExp (pt_cmpR op_lt (pv 2) pe_int (nomark _)) (pe_lst (pa_cons (pe_un un_neg pe_int) pa_nil))
        (pe_op op_cat (pe_lst (pa_cons (pe_def D4 hr2 rfl (pa_cons (pe_def D3 hr2 rfl (pa_cons (pv 0) (pa_cons (pv 2) pa_nil))) pa_nil)) pa_nil)) (pe_def D6 hr2 rfl (pa_cons (pv 0) (pa_cons (pv 2) pa_nil)))))))), ?_⟩
    refine ⟨_, rfl, a, _, _, natV n, rfl, rfl, hS, at0, n, rfl, _, rfl, ?_⟩
    refine if_of (d := !Kh432.isBuyerCount n) rfl (fun c => ?_) (fun c => ?_)
    · have c : Kh432.isBuyerCount n = false := by simpa using c
      exact ⟨_, rfl, (by show 1 ≤ sizeLine; decide), fun r nr => fin_new M k (ap_b_bad (by decide) c) H r (Same.refl _) nr⟩
    have c1 : Kh432.isBuyerCount n = true := by simpa using c
    refine ⟨_, rfl, _, rfl, a, _, _, natV n, rfl, rfl, hS, at0, p, m, _, n, rfl, M, hg, fun H1 s1 => ⟨_, rfl, _, _, rfl, rfl, _, rfl, ?_⟩⟩
    refine if_of (enc_neg _) (fun c => ?_) (fun c => ?_)
    · have e : Kh432.minimizing (endFn m) (plansL m n m.demand) = none := by
        cases e : Kh432.minimizing (endFn m) (plansL m n m.demand) with
        | none => rfl
        | some x => rw [e] at c; cases c
      exact ⟨_, rfl, (by show 1 ≤ sizeLine; decide), fun r nr => fin_new M k (ap_ep_none hg c1 e) H1 r s1 nr⟩
    · cases e : Kh432.minimizing (endFn m) (plansL m n m.demand) with
      | none => rw [e] at c; cases c
      | some mask =>
        have e2 := ap_ep hg c1 e
        have hlen : (lotsIn m mask).length ≤ 1000 := Nat.le_trans (lotsIn_length m mask) (by omega)
        refine ⟨_, rfl, _, rfl, p, m, _, mask, rfl, M.same s1, by omega, fun H2 r2 bs s2 n2 l2 hbs => ?_⟩
        refine ⟨r2, bs, lotsIn m mask, rfl, SqL.of l2, hbs, hlen, fun H3 s3 => ⟨(by show 1 ≤ sizeLine; decide), fun r5 n5 => ?_⟩⟩
        have s03 := (s1.trans s2).trans s3
        have s5 := same_upd (o := .lst [natV (lastEnd (lotsIn m mask))]) s03 (s03.free n5)
        refine ⟨_, rfl, _, rfl, p, m, _, mask, rfl, M.same s5, hn, fun H6 r6 s6 n6 l6 => ?_⟩
        have h5 := s6 _ _ (upd_same (H := H3) (a := r5) (o := .lst [natV (lastEnd (lotsIn m mask))]))
        refine ⟨r5, r6, _, _, rfl, rfl, h5, l6, ?_, fun r nr => ?_⟩
        · rw [List.length_map]
          have := members_len hn mask
          exact line _ (by show 1 + _ ≤ _; omega)
        · have q := fin_new M k e2 _ r (s5.trans s6) nr
          rw [ans_values, ← end_is] at q
          exact q
theorem ok_d17 {f : Addr} {fd : FuncData} (F : Fun K "cheapest_without_lot" "cheapest_without_lot" sD17 f fd) (D0 : Def P w K mg base "has_lot" 1 ["market", "number"] (spHas C CM)) (D1 : Def P w K mg base "are_buyers" 1 ["number"] spAre) (D2 : Def P w K mg base "plan_answer" 3 ["market", "mask"] (spPlanAns C CM))
    (D3 : Def P w K mg base "cheapest_of" 3 ["market", "masks"] (spCheapOf K C CM)) (D4 : Def P w K mg base "plans_without" 5 ["market", "buyers", "number"] (spWithout C CM)) : FnOk P w K mg base CX0 6 f fd ["market", "numbers"] (spDeed K C CM 17) := by
  refine F.ok scD17 (fun vs H Q E h => ?_) (fun cdv A outer s H vs Q E hr h => ?_)
  · obtain ⟨p, a, m, fp, xs, rfl, _⟩ := h
    rfl
  · obtain ⟨p, a, m, fp, xs, rfl, M, hg, hS, hl, k⟩ := h
    obtain ⟨n, i, rfl⟩ := two hl
    have hr1 : Room 1 _ := hr.mono (by decide)
    have hr3 : Room 3 _ := hr.mono (by decide)
    have hn := hg.1
    refine ⟨_, pss_cons (ps_asg (pv 1) (pg_unl rfl (pgs_cons (pg_name (i := 2) scD17.nd rfl (.inl rfl)) (pgs_cons (pg_name (i := 3) scD17.nd rfl (.inl rfl)) pgs_nil))))
      (pss_cons (ps_if (pt_not (pt_val (pe_def D0 hr1 rfl (pa_cons (pv 0) (pa_cons (pv 3) pa_nil))))) (pss_one (ps_ret (pe_lst (pa_cons (pe_un un_neg pe_int) pa_nil)))) pss_nil)
      (pss_cons (ps_if (pt_not (pt_val (pe_def D1 hr1 rfl (pa_cons (pv 2) pa_nil)))) (pss_one (ps_ret (pe_lst (pa_cons (pe_un un_neg pe_int) pa_nil)))) pss_nil)
      (pss_one (ps_ret (pe_def D2 hr3 rfl (pa_cons (pv 0) (pa_cons (pe_def D3 hr3 rfl (pa_cons (pv 0) (pa_cons (pe_def D4 hr rfl (pa_cons (pv 0) (pa_cons (pv 2) (pa_cons (pv 3) pa_nil)))) pa_nil))) pa_nil))))))), ?_⟩
    refine ⟨_, rfl, a, _, rfl, hS, rfl, _, _, rfl, _, _, rfl, rfl, ?_⟩
    refine ⟨_, rfl, _, rfl, p, m, _, i, rfl, M, _, rfl, ?_⟩
    refine if_of (d := !decide (i < m.lots.length)) rfl (fun c => ?_) (fun c => ?_)
    · exact ⟨_, rfl, (by show 1 ≤ sizeLine; decide), fun r nr => fin_new M k (ap_cw_no (not_dec rfl c)) H r (Same.refl _) nr⟩
    have c1 := not_dec' rfl c
    refine ⟨_, rfl, n, rfl, _, rfl, ?_⟩
    refine if_of (d := !Kh432.isBuyerCount n) rfl (fun c => ?_) (fun c => ?_)
    · have c : Kh432.isBuyerCount n = false := by simpa using c
      exact ⟨_, rfl, (by show 1 ≤ sizeLine; decide), fun r nr => fin_new M k (ap_cw_bad c1 c) H r (Same.refl _) nr⟩
    have c2 : Kh432.isBuyerCount n = true := by simpa using c
    refine ⟨_, rfl, _, rfl, _, rfl, _, rfl, _, rfl, p, m, _, n, i, rfl, M, hg, c1, fun H1 r1 s1 n1 l1 => ⟨p, m, _, r1, _, rfl, M.same s1, hn, SqL.of l1, fun H2 s2 => ⟨p, m, _, _, rfl, M.same (s1.trans s2), hn, fun H3 r3 s3 n3 l3 => ?_⟩⟩⟩
    have s02 := s1.trans s2
    exact fin_same M k (ap_cw hg c1 c2) H3 r3 (s02.trans s3) (s02.free n3) l3
theorem ok_d18 {f : Addr} {fd : FuncData} (F : Fun K "cheapest_if_demand" "cheapest_if_demand" sD18 f fd) (T : Txt K mg C CM) (D1 : Def P w K mg base "are_buyers" 1 ["number"] spAre) (D2 : Def P w K mg base "plan_answer" 3 ["market", "mask"] (spPlanAns C CM))
    (D3 : Def P w K mg base "cheapest_of" 3 ["market", "masks"] (spCheapOf K C CM)) (D4 : Def P w K mg base "plans" 4 ["market", "buyers", "demand"] (spPlans K C CM)) : FnOk P w K mg base CX0 5 f fd ["market", "numbers"] (spDeed K C CM 18) := by
  refine F.ok scD18 (fun vs H Q E h => ?_) (fun cdv A outer s H vs Q E hr h => ?_)
  · obtain ⟨p, a, m, fp, xs, rfl, _⟩ := h
    rfl
  · obtain ⟨p, a, m, fp, xs, rfl, M, hg, hS, hl, k⟩ := h
    obtain ⟨n, kd, u, rfl⟩ := three' hl
    have hr1 : Room 1 _ := hr.mono (by decide)
    have hr3 : Room 3 _ := hr.mono (by decide)
    have hn := hg.1
    have M0 := M
    obtain ⟨L, DD, B, as, rfl, M1⟩ := M
    obtain ⟨dx, hp⟩ := M1.ins
    refine ⟨_, pss_cons (ps_asg (pv 1) (pg_unl rfl (pgs_cons (pg_name (i := 2) scD18.nd rfl (.inl rfl)) (pgs_cons (pg_name (i := 3) scD18.nd rfl (.inl rfl)) (pgs_cons (pg_name (i := 4) scD18.nd rfl (.inl rfl)) pgs_nil)))))
      (pss_cons (ps_if (pt_cmpR op_ge (pv 3) (pe_const T.kinds rfl) (nomark _)) (pss_one (ps_ret (pe_lst (pa_cons (pe_un un_neg pe_int) pa_nil)))) pss_nil)
      (pss_cons (ps_if (PW.pt (pw_or (pt_not (pt_val (pe_def D1 hr1 rfl (pa_cons (pv 2) pa_nil)))) (pw_or1 (pt_cmpR op_gt (pv 4) pe_int (nomark _))))) (pss_one (ps_ret (pe_lst (pa_cons (pe_un un_neg pe_int) pa_nil)))) pss_nil)
      (pss_cons (ps_set (i := 5) scD18.nd rfl (.inl rfl) (pe_op op_cat (pe_op op_cat (pe_slice sl_list (pe_fld (pv 0) rfl) po_none (po_some (pv 3))) (pe_lst (pa_cons (pv 4) pa_nil))) (pe_slice sl_list (pe_fld (pv 0) rfl) (po_some (pe_op op_add (pv 3) pe_int)) po_none)))
      (pss_one (ps_ret (pe_def D2 hr3 rfl (pa_cons (pv 0) (pa_cons (pe_def D3 hr3 rfl (pa_cons (pv 0) (pa_cons (pe_def D4 hr rfl (pa_cons (pv 0) (pa_cons (pv 2) (pa_cons (pv 5) pa_nil)))) pa_nil))) pa_nil)))))))), ?_⟩
    refine ⟨_, rfl, a, _, rfl, hS, rfl, _, _, rfl, _, _, rfl, _, _, rfl, rfl, ?_⟩
    refine ⟨_, rfl, _, _, rfl, rfl, _, rfl, ?_⟩
    refine if_of (dec_le 3 kd) (fun c => ?_) (fun c => ?_)
    · exact ⟨_, rfl, (by show 1 ≤ sizeLine; decide), fun r nr => fin_new M0 k (ap_ci_no (of_decide_eq_true c)) H r (Same.refl _) nr⟩
    have c1 := of_decide_eq_false c
    refine ⟨_, rfl, n, rfl, _, rfl, ?_⟩
    refine if_of (d := !Kh432.isBuyerCount n) rfl (fun c => ?_) (fun c => ?_)
    · have c : Kh432.isBuyerCount n = false := by simpa using c
      exact if_of rfl (fun _ => ⟨_, rfl, (by show 1 ≤ sizeLine; decide), fun r nr => fin_new M0 k (ap_ci_bad c1 (.inl c)) H r (Same.refl _) nr⟩) (fun z => nomatch z)
    have c2 : Kh432.isBuyerCount n = true := by simpa using c
    refine ⟨_, rfl, _, _, rfl, rfl, _, rfl, ?_⟩
    refine if_of (dec_lt 99 u) (fun c => ?_) (fun c => ?_)
    · exact ⟨_, rfl, (by show 1 ≤ sizeLine; decide), fun r nr => fin_new M0 k (ap_ci_bad c1 (.inr (of_decide_eq_true c))) H r (Same.refl _) nr⟩
    have c3 := of_decide_eq_false c
    -- the other demand
    have ld : ∀ lo hi, (cutV (m.demand.map natV) lo hi).length ≤ 3 := fun lo hi => by
      have := cut_len (m.demand.map natV) lo hi
      rw [List.length_map, hg.2.1] at this
      exact this
    refine ⟨_, rfl, p, CM, dx, _, _, rfl, hp, T.cm, T.mD, mF_dem _ _ _ _, _, rfl, _, rfl, DD, _, rfl, SqL.of M1.dem, fun r1 n1 => ?_⟩
    have s1 := same_new (o := .lst (cutV (m.demand.map natV) none (some (kd : Int)))) n1
    have h1 := upd_same (H := H) (a := r1) (o := .lst (cutV (m.demand.map natV) none (some (kd : Int))))
    refine ⟨_, rfl, (by show 1 ≤ sizeLine; decide), fun r2 n2 => ?_⟩
    have s2 := same_upd (o := .lst [natV u]) s1 (s1.free n2)
    refine ⟨r1, r2, _, _, rfl, rfl, by rw [upd_ne (ne_of_none h1 n2)]; exact h1, upd_same, ?_, fun r3 n3 => ?_⟩
    · have := ld none (some (kd : Int))
      exact line _ (by show _ + 1 ≤ _; omega)
    have s3 := same_upd (o := .lst (cutV (m.demand.map natV) none (some (kd : Int)) ++ [natV u])) s2 (s2.free n3)
    have h3 := upd_same (H := upd (upd H r1 (.lst (cutV (m.demand.map natV) none (some (kd : Int))))) r2 (.lst [natV u])) (a := r3) (o := .lst (cutV (m.demand.map natV) none (some (kd : Int)) ++ [natV u]))
    generalize upd (upd (upd H r1 (.lst (cutV (m.demand.map natV) none (some (kd : Int))))) r2 (.lst [natV u])) r3 (.lst (cutV (m.demand.map natV) none (some (kd : Int)) ++ [natV u])) = H3 at *
    refine ⟨_, rfl, p, CM, dx, _, _, rfl, s3 _ _ hp, T.cm, T.mD, mF_dem _ _ _ _, _, rfl, _, _, rfl, rfl, _, rfl, DD, _, rfl, SqL.of (s3 _ _ M1.dem), fun r4 n4 => ?_⟩
    have s4 := same_upd (o := .lst (cutV (m.demand.map natV) (some ((kd : Int) + 1)) none)) s3 (s3.free n4)
    refine ⟨r3, r4, cutV (m.demand.map natV) none (some (kd : Int)) ++ [natV u], cutV (m.demand.map natV) (some ((kd : Int) + 1)) none, rfl, rfl, ?_, ?_, ?_, fun r5 n5 => ?_⟩
    · rw [upd_ne (ne_of_none h3 n4)]
      exact h3
    · exact upd_same
    · rw [List.length_append]
      have e1 := ld none (some (kd : Int))
      have e2 := ld (some ((kd : Int) + 1)) none
      exact line _ (by show _ + 1 + _ ≤ _; omega)
    rw [cut_set hg.2.1 c1 u]
    have s5 := same_upd (o := .lst ((m.demand.set kd u).map natV)) s4 (s4.free n5)
    refine ⟨_, rfl, _, rfl, _, rfl, _, rfl, _, rfl, p, m, _, n, r5, m.demand.set kd u, rfl, M0.same s5, hn, SqL.of upd_same, fun H6 r6 s6 n6 l6 => ⟨p, m, _, r6, _, rfl, M0.same (s5.trans s6), hn, SqL.of l6, fun H7 s7 => ⟨p, m, _, _, rfl, M0.same ((s5.trans s6).trans s7), hn, fun H8 r8 s8 n8 l8 => ?_⟩⟩⟩
    have s07 := (s5.trans s6).trans s7
    exact fin_same M0 k (ap_ci hg c1 c2 c3) H8 r8 (s07.trans s8) (s07.free n8) l8
theorem ok_d19 {f : Addr} {fd : FuncData} (F : Fun K "saving_by_second_buyer" "saving_by_second_buyer" sD19 f fd) (D1 : Def P w K mg base "cheapest" 5 ["market", "buyers"] (spCheap C CM)) (D2 : Def P w K mg base "cost_of" 1 ["lots"] (spL1 K C costOf)) (D3 : Def P w K mg base "lots_in" 2 ["market", "mask"] (spIn C CM)) :
    FnOk P w K mg base CX0 6 f fd ["market", "numbers"] (spDeed K C CM 19) := by
  refine F.ok scD19 (fun vs H Q E h => ?_) (fun cdv A outer s H vs Q E hr h => ?_)
  · obtain ⟨p, a, m, fp, xs, rfl, _⟩ := h
    rfl
  · obtain ⟨p, a, m, fp, xs, rfl, M, hg, hS, hl, k⟩ := h
    obtain rfl := none' hl
    have hr1 : Room 1 _ := hr.mono (by decide)
    have hr2 : Room 2 _ := hr.mono (by decide)
    have hn := hg.1
    refine ⟨_, pss_cons (ps_set (i := 2) scD19.nd rfl (.inl rfl) (pe_def D1 hr rfl (pa_cons (pv 0) (pa_cons pe_int pa_nil))))
      (pss_cons (ps_if (pt_cmpR op_lt (pv 2) pe_int (nomark _)) (pss_one (ps_ret (pe_lst (pa_cons (pe_un un_neg pe_int) pa_nil)))) pss_nil)
      (pss_cons (ps_set (i := 3) scD19.nd rfl (.inl rfl) (pe_def D1 hr rfl (pa_cons (pv 0) (pa_cons pe_int pa_nil))))
      (pss_one (ps_ret (pe_ifExp (pt_cmpR op_lt (pv 3) pe_int (nomark _)) (pe_lst (pa_cons (pe_un un_neg pe_int) pa_nil))
        (pe_lst (pa_cons (pe_op op_sub (pe_def D2 hr1 rfl (pa_cons (pe_def D3 hr2 rfl (pa_cons (pv 0) (pa_cons (pv 3) pa_nil))) pa_nil)) (pe_def D2 hr1 rfl (pa_cons (pe_def D3 hr2 rfl (pa_cons (pv 0) (pa_cons (pv 2) pa_nil))) pa_nil))) pa_nil))))))), ?_⟩
    refine ⟨_, rfl, p, m, _, 2, rfl, M, hg, fun H1 s1 => ⟨_, rfl, _, _, rfl, rfl, _, rfl, ?_⟩⟩
    cases e2 : Kh432.cheapestPlan m 2 with
    | none =>
      exact if_of (enc_neg none) (fun _ => ⟨_, rfl, (by show 1 ≤ sizeLine; decide), fun r nr => fin_new M k (ap_sv_none e2) H1 r s1 nr⟩) (fun z => nomatch z)
    | some b =>
      refine if_of (enc_neg (some b)) (fun z => nomatch z) (fun _ => ?_)
      refine ⟨_, rfl, p, m, _, 1, rfl, M.same s1, hg, fun H2 s2 => ⟨_, rfl, _, _, rfl, rfl, _, rfl, ?_⟩⟩
      have s02 := s1.trans s2
      cases e1 : Kh432.cheapestPlan m 1 with
      | none =>
        exact if_of (enc_neg none) (fun _ => ⟨_, rfl, (by show 1 ≤ sizeLine; decide), fun r nr => fin_new M k (ap_sv_one e1 e2) H2 r s02 nr⟩) (fun z => nomatch z)
      | some a1 =>
        refine if_of (enc_neg (some a1)) (fun z => nomatch z) (fun _ => ?_)
        have hl1 : ∀ mask, (lotsIn m mask).length ≤ 1000 := fun mask => Nat.le_trans (lotsIn_length m mask) (by omega)
        refine ⟨_, rfl, _, rfl, p, m, _, a1, rfl, M.same s02, by omega, fun H3 r3 bs s3 n3 l3 hbs => ⟨r3, bs, lotsIn m a1, rfl, SqL.of l3, hbs, hl1 _, fun H4 s4 => ?_⟩⟩
        have s04 := (s02.trans s3).trans s4
        refine ⟨_, rfl, _, rfl, p, m, _, b, rfl, M.same s04, by omega, fun H5 r5 bs5 s5 n5 l5 hbs5 => ⟨r5, bs5, lotsIn m b, rfl, SqL.of l5, hbs5, hl1 _, fun H6 s6 => ⟨_, _, rfl, rfl, (by show 1 ≤ sizeLine; decide), fun r nr => ?_⟩⟩⟩
        rw [cost_is, cost_is]
        exact fin_new M k (ap_sv e1 e2) _ r ((s04.trans s5).trans s6) nr
theorem ok_d20 {f : Addr} {fd : FuncData} (F : Fun K "busiest_moment" "busiest_moment" sD20 f fd) (T : Txt K mg C CM) (D1 : Def P w K mg base "buyers_needed" 3 ["lots"] (spL1 K C need)) (D2 : Def P w K mg base "on_sale" 2 ["lots", "second"] (spOn K C)) :
    FnOk P w K mg base CX0 4 f fd ["market", "numbers"] (spDeed K C CM 20) := by
  refine F.ok scD20 (fun vs H Q E h => ?_) (fun cdv A outer s H vs Q E hr h => ?_)
  · obtain ⟨p, a, m, fp, xs, rfl, _⟩ := h
    rfl
  · obtain ⟨p, a, m, fp, xs, rfl, M, hg, hS, hl, k⟩ := h
    obtain rfl := none' hl
    have hr2 : Room 2 _ := hr.mono (by decide)
    have hn := hg.1
    have M0 := M
    obtain ⟨L, DD, B, as, rfl, M1⟩ := M
    obtain ⟨dx, hp⟩ := M1.ins
    have hln : m.lots.length ≤ 1000 := by omega
    refine ⟨_, pss_cons (ps_if (pt_cmpR op_eq (pe_callB call_len_seq (by rfl) T.len PySem.boot_len (pa_cons (pe_fld (pv 0) rfl) pa_nil)) pe_int (nomark _)) (pss_one (ps_ret (pe_lst (pa_cons (pe_un un_neg pe_int) pa_nil)))) pss_nil)
      (pss_cons (ps_set (i := 2) scD20.nd rfl (.inr rfl) (pe_def D1 hr rfl (pa_cons (pe_fld (pv 0) rfl) pa_nil)))
      (pss_cons (ps_setLc (i := 3) (own := [("lot", 4)]) (g := gName 4) (tt := tTest (tOp rEq (tDef (spOn K C) (tCons (tFld K (tVar 0) "lots") (tCons (tFld K (tVar 4) "start") tNil))) (tVar 2))) (te := tFld K (tVar 4) "start") rfl scD20.nd rfl rfl
        (sw_true rfl rfl rfl (by decide +kernel)) (pi_list (pe_fld (pv 0) rfl))
        (blkOk_by (N := ["market", "numbers", "most", "starts", "lot"]) (sc := defScope sD20) (by decide +kernel)) (fun _ _ _ _ _ => pg_name (i := 4) scD20.nd rfl (Or.inl rfl))
        (fun _ _ _ _ _ => pts_one (pt_cmpR op_eq (pe_def D2 hr2 rfl (pa_cons (pe_fld (pv 0) rfl) (pa_cons (pe_fld (pv 4) rfl) pa_nil))) (pv 2) (nomark _))) (fun _ _ _ _ _ => pe_fld (pv 4) rfl))
      (pss_one (ps_ret (pe_lst (pa_cons (pv 2) (pa_cons (pe_ix ix_list (pv 3) pe_int (fun _ _ => rfl)) pa_nil))))))), ?_⟩
    refine ⟨_, rfl, p, CM, dx, _, _, rfl, hp, T.cm, T.mL, mF_lots _ _ _ _, _, _, rfl, .inl (SqL.of M1.lst), rfl, _, rfl, ?_⟩
    have e0 : decide (V.int (((as.map V.ref).length : Nat) : Int) = V.int 0) = decide (m.lots = []) := by
      rw [List.length_map, M1.len, decide_eq_decide]
      constructor
      · intro z
        injection z with z
        exact List.eq_nil_of_length_eq_zero (by omega)
      · intro z
        rw [z]
        rfl
    refine if_of e0 (fun c => ?_) (fun c => ?_)
    · exact ⟨_, rfl, (by show 1 ≤ sizeLine; decide), fun r nr => fin_new M0 k (ap_bm_none (of_decide_eq_true c)) H r (Same.refl _) nr⟩
    obtain ⟨l, rest, hf, hb⟩ := ap_bm (of_decide_eq_false c)
    refine ⟨_, rfl, p, CM, dx, _, _, rfl, hp, T.cm, T.mL, mF_lots _ _ _ _, L, as, m.lots, rfl, SqL.of M1.lst, M1.lots, hln, fun H1 s1 => ?_⟩
    have hp1 := s1 _ _ hp
    have hL1 := s1 _ _ M1.lst
    have hl1 := M1.lots.same s1
    refine ⟨_, rfl, p, CM, dx, _, _, rfl, hp1, T.cm, T.mL, mF_lots _ _ _ _, L, rfl, ⟨_, SqL.of hL1⟩, lc_map (i := 4) (p := busy m) (f := fun l => natV l.start) (SqL.of hL1) hl1 hln ?_ ?_ ?_⟩
    · intro H2 b l R s2 ⟨dy, hb⟩ q
      refine ⟨_, rfl, p, CM, dx, _, _, rfl, s2 _ _ hp1, T.cm, T.mL, mF_lots _ _ _ _, _, rfl, b, C, dy, _, _, rfl, hb, T.cl, T.aS, lF_start l, L, as, m.lots, l.start, rfl, SqL.of (s2 _ _ hL1), hl1.same s2, hln, fun H3 s3 => ⟨_, rfl, rfl, _, rfl, ?_⟩⟩
      have e : decide (natV (onSale m.lots l.start) = natV (need m.lots)) = busy m l := by
        unfold busy
        rw [Bool.eq_iff_iff, decide_eq_true_eq, beq_iff_eq]
        unfold natV
        constructor
        · intro z
          injection z with z
          omega
        · intro z
          rw [z]
      rw [e]
      exact q H3 s3
    · intro H2 b l R s2 ⟨dy, hb⟩ q
      exact ⟨_, rfl, b, C, dy, _, _, rfl, hb, T.cl, T.aS, lF_start l, q H2 (Same.refl _)⟩
    · intro D2 H2 s2 hD2 hl2
      rw [hf] at hl2
      refine ⟨_, rfl, _, rfl, D2, _, _, natV l.start, rfl, rfl, SqL.of hl2, at0, (by show 2 ≤ sizeLine; decide), fun r nr => ?_⟩
      have q := fin_new M0 k hb _ r (s1.trans s2) nr
      rw [ans_values] at q
      exact q
theorem ok_d21 {f : Addr} {fd : FuncData} (F : Fun K "list_lots" "list_lots" sD21 f fd) (T : Txt K mg C CM) : FnOk P w K mg base CX0 1 f fd ["market", "numbers"] (spDeed K C CM 21) := by
  refine F.ok scD21 (fun vs H Q E h => ?_) (fun cdv A outer s H vs Q E hr h => ?_)
  · obtain ⟨p, a, m, fp, xs, rfl, _⟩ := h
    rfl
  · obtain ⟨p, a, m, fp, xs, rfl, M, hg, hS, hl, k⟩ := h
    obtain rfl := none' hl
    have hn := hg.1
    have M0 := M
    obtain ⟨L, DD, B, as, rfl, M1⟩ := M
    obtain ⟨dx, hp⟩ := M1.ins
    refine ⟨_, pss_cons (ps_set (i := 2) scD21.nd rfl (.inl rfl) (pe_lst (pa_cons (pe_callB call_len_seq (by rfl) T.len PySem.boot_len (pa_cons (pe_fld (pv 0) rfl) pa_nil)) pa_nil)))
      (pss_cons (ps_for PassesOwn.never rfl (pi_list (pe_fld (pv 0) rfl)) (pg_name (i := 3) scD21.nd rfl (.inl rfl))
        (pss_one (ps_expr (pe_bm PySem.F.plainAttrs_list PySem.F.slot_list_extend PySem.F.type_list_extend mt_extend (pv 2)
          (pa_cons (pe_lst (pa_cons (pe_fld (pv 3) rfl) (pa_cons (pe_fld (pv 3) rfl) (pa_cons (pe_fld (pv 3) rfl) (pa_cons (pe_fld (pv 3) rfl) (pa_cons (pe_fld (pv 3) rfl) pa_nil)))))) pa_nil)))))
      (pss_one (ps_ret (pv 2)))), ?_⟩
    refine ⟨_, rfl, p, CM, dx, _, _, rfl, hp, T.cm, T.mL, mF_lots _ _ _ _, _, _, rfl, .inl (SqL.of M1.lst), (by show 1 ≤ sizeLine; decide), fun F nF => ?_⟩
    rw [List.length_map, M1.len]
    have s0 := same_new (o := .lst [V.int ((m.lots.length : Nat) : Int)]) nF
    have hL0 := s0 _ _ M1.lst
    refine ⟨_, rfl, p, CM, dx, _, _, rfl, s0 _ _ hp, T.cm, T.mL, mF_lots _ _ _ _, L, rfl, ⟨_, SqL.of hL0⟩, ?_⟩
    refine for_list (K := K) (a := L) (xs := as.map V.ref) (fun i σ H' => Same H H' ∧ H' F = some (.lst (natV m.lots.length :: (((m.lots.take i).flatMap fun x => [x.kind, x.units, x.start, x.duration, x.cost]).map natV))) ∧ ∃ v, σ = [some (.ref p), some (.ref a), some (.ref F), v])
      ⟨s0, upd_same, none, rfl⟩ (fun i σ H' _ h => h.1.seq (SqL.of M1.lst)) ?_ ?_
    · rintro i x σ H' hx ⟨sm, hl, v, rfl⟩
      obtain ⟨b, hb, rfl⟩ := mapRef hx
      obtain ⟨l, hli, dy, hlot⟩ := (M1.lots.same sm).get' hb
      refine ⟨_, rfl, .inl ⟨rfl, _, SqL.of hl⟩, ?_⟩
      refine ⟨_, rfl, b, C, dy, _, _, rfl, hlot, T.cl, T.aK, lF_kind l, _, rfl, b, C, dy, _, _, rfl, hlot, T.cl, T.aU, lF_units l, _, rfl, b, C, dy, _, _, rfl, hlot, T.cl, T.aS, lF_start l, _, rfl, b, C, dy, _, _, rfl, hlot, T.cl, T.aD, lF_dur l, _, rfl, b, C, dy, _, _, rfl, hlot, T.cl, T.aC, lF_cost l, (by show 5 ≤ sizeLine; decide), fun t nt => ?_⟩
      have st := same_upd (o := .lst [natV l.kind, natV l.units, natV l.start, natV l.duration, natV l.cost]) sm (sm.free nt)
      refine ⟨F, t, _, _, rfl, rfl, by rw [upd_ne (ne_of_none hl nt)]; exact hl, upd_same, ?_, same_upd st nF, ?_, some (.ref b), rfl⟩
      · have hfl : ∀ ls : List Kh432.Lot, (ls.flatMap fun x => [x.kind, x.units, x.start, x.duration, x.cost]).length = 5 * ls.length := by
          intro ls
          induction ls with
          | nil => rfl
          | cons x r ih =>
            rw [List.flatMap_cons, List.length_append, ih]
            show 5 + 5 * r.length = 5 * (r.length + 1)
            omega
        rw [List.length_cons, List.length_map, hfl, List.length_take]
        refine line _ ?_
        show (5 * min i m.lots.length + 1) + 5 ≤ 16000000
        omega
      · rw [upd_same, take_more hli, List.flatMap_append, List.map_append]
        rfl
    · rintro σ H' ⟨sm, hl, v, rfl⟩
      rw [List.length_map, M1.len, List.take_length] at hl
      refine ⟨_, rfl, fin_same M0 k ap_ll H' F sm nF ?_⟩
      rw [ans_values]
      exact hl
theorem ok_d22 {f : Addr} {fd : FuncData} (F : Fun K "list_demand" "list_demand" sD22 f fd) (T : Txt K mg C CM) : FnOk P w K mg base CX0 1 f fd ["market", "numbers"] (spDeed K C CM 22) := by
  refine F.ok scD22 (fun vs H Q E h => ?_) (fun cdv A outer s H vs Q E hr h => ?_)
  · obtain ⟨p, a, m, fp, xs, rfl, _⟩ := h
    rfl
  · obtain ⟨p, a, m, fp, xs, rfl, M, hg, hS, hl, k⟩ := h
    obtain rfl := none' hl
    have M0 := M
    obtain ⟨L, DD, B, as, rfl, M1⟩ := M
    obtain ⟨dx, hp⟩ := M1.ins
    refine ⟨_, pss_one (ps_ret (pe_op op_cat (pe_lst (pa_cons (pe_const T.kinds rfl) pa_nil)) (pe_fld (pv 0) rfl))), ?_⟩
    refine ⟨(by show 1 ≤ sizeLine; decide), fun t nt => ?_⟩
    have st := same_new (o := .lst [V.int 3]) nt
    refine ⟨_, rfl, p, CM, dx, _, _, rfl, st _ _ hp, T.cm, T.mD, mF_dem _ _ _ _, t, DD, _, _, rfl, rfl, upd_same, st _ _ M1.dem, ?_, fun r nr => ?_⟩
    · rw [List.length_map, hg.2.1]
      show 1 + 3 ≤ sizeLine
      decide
    · have q := fin_new M0 k ap_ld _ r st nr
      rw [ans_values] at q
      exact q
theorem ok_d23 {f : Addr} {fd : FuncData} (F : Fun K "status" "status" sD23 f fd) (T : Txt K mg C CM) : FnOk P w K mg base CX0 1 f fd ["market", "numbers"] (spDeed K C CM 23) := by
  refine F.ok scD23 (fun vs H Q E h => ?_) (fun cdv A outer s H vs Q E hr h => ?_)
  · obtain ⟨p, a, m, fp, xs, rfl, _⟩ := h
    rfl
  · obtain ⟨p, a, m, fp, xs, rfl, M, hg, hS, hl, k⟩ := h
    obtain rfl := none' hl
    have M0 := M
    obtain ⟨L, DD, B, as, rfl, M1⟩ := M
    obtain ⟨dx, hp⟩ := M1.ins
    refine ⟨_, pss_one (ps_ret (pe_op op_cat (pe_lst (pa_cons (pe_callB call_len_seq (by rfl) T.len PySem.boot_len (pa_cons (pe_fld (pv 0) rfl) pa_nil)) (pa_cons (pe_fld (pv 0) rfl) pa_nil))) (pe_fld (pv 0) rfl))), ?_⟩
    refine ⟨_, rfl, p, CM, dx, _, _, rfl, hp, T.cm, T.mL, mF_lots _ _ _ _, _, _, rfl, .inl (SqL.of M1.lst), _, rfl, p, CM, dx, _, _, rfl, hp, T.cm, T.mS, mF_spent _ _ _ _, (by show 2 ≤ sizeLine; decide), fun t nt => ?_⟩
    rw [List.length_map, M1.len]
    have st := same_new (o := .lst [V.int ((m.lots.length : Nat) : Int), natV m.spent]) nt
    refine ⟨_, rfl, p, CM, dx, _, _, rfl, st _ _ hp, T.cm, T.mB, mF_bgt _ _ _ _, t, B, _, _, rfl, rfl, upd_same, st _ _ M1.bgt, ?_, fun r nr => ?_⟩
    · rw [List.length_map, hg.2.2.1]
      show 2 + 3 ≤ sizeLine
      decide
    · have q := fin_new M0 k ap_st _ r st nr
      rw [ans_values] at q
      exact q
end
end Lc
/-! part LcN -/
namespace Lc
open PySem PySem.Spec PyProof.Rows L2

def newM : Kh432.Market := ⟨[], [0, 0, 0], [0, 0, 0], 0⟩
abbrev sMkt : Stmt := inClass (top 3) 0
theorem scMkt : FnScope ["self"] ["self"] (defScope sMkt) := ⟨rfl, rfl, rfl, by decide +kernel, rfl, by decide +kernel, by decide +kernel⟩
def spMk (C CM : Addr) : Sp := fun vs H Q _ => ∃ p dx, vs = [.ref p] ∧ H p = some (.ins CM dx []) ∧
  ∀ H' fp, Mkt C CM H' p newM fp → (∀ b ∈ fp, b = p ∨ H b = none) → (∀ b o, H b = some o → b ≠ p → H' b = some o) → Q .non H'
theorem mF_new (L D B : Addr) (n : Nat) : putF "spent" (natV n) (putF "bought" (.ref B) (putF "demand" (.ref D) (putF "lots" (.ref L) []))) = mF L D B n := by
  have n1 : ¬ (Str.ofString "lots") = Str.ofString "demand" := by decide +kernel
  have n2 : ¬ (Str.ofString "lots") = Str.ofString "bought" := by decide +kernel
  have n3 : ¬ (Str.ofString "lots") = Str.ofString "spent" := by decide +kernel
  have n4 : ¬ (Str.ofString "demand") = Str.ofString "bought" := by decide +kernel
  have n5 : ¬ (Str.ofString "demand") = Str.ofString "spent" := by decide +kernel
  have n6 : ¬ (Str.ofString "bought") = Str.ofString "spent" := by decide +kernel
  rw [put_end (f := Str.ofString "lots") (l := []) (by simp)]
  rw [put_end (f := Str.ofString "demand") (by simp [n1])]
  rw [put_end (f := Str.ofString "bought") (by simp [n2, n4])]
  rw [put_end (f := Str.ofString "spent") (by simp [n3, n5, n6])]
  rfl
abbrev sAnswer : Stmt := top 64
theorem scAnswer : FnScope ["current", "call", "numbers", "deed"] ["current", "call", "numbers"] (defScope sAnswer) := ⟨rfl, rfl, rfl, by decide +kernel, rfl, by decide +kernel, by decide +kernel⟩
/-- what «current» holds -/
def Cur (C CM : Addr) (H : Hp) (v : V) (fp : List Addr) : Option Kh432.Market → Prop
  | none => v = .non ∧ fp = []
  | some m => ∃ p, v = .ref p ∧ Mkt C CM H p m fp ∧ Good m
/-- behind a call -/
def After (C CM : Addr) (H : Hp) (fp : List Addr) (v : V) (s' : Option Kh432.Market) (H' : Hp) : Prop := ∃ fp', Cur C CM H' v fp' s' ∧ (∀ b ∈ fp', b ∈ fp ∨ H b = none) ∧ ∀ b o, H b = some o → b ∉ fp → H' b = some o
def spAnswer (K : PySem.W.Frag) (C CM : Addr) : Sp := fun vs H Q _ => ∃ v s fp c a xs, vs = [v, natV c, .ref a] ∧ Cur C CM H v fp s ∧ 1 ≤ c ∧ c < 24 ∧ SqL K H a (xs.map natV) ∧ xs.length = arity c ∧
  ∀ H' r, After C CM H fp v (Kh432.execute s (callN c xs)).1 H' → H r = none → H' r = some (.lst (ansV (Kh432.execute s (callN c xs)).2)) → Q (.ref r) H'
structure DeedsOk (P : Program) (w : World) (K : PySem.W.Frag) (mg : Str → Option Value) (base : Heap) (C CM : Addr) : Prop where
  ex : ∃ (Dd : Addr) (items : List V), mg "DEEDS" = some (.ref Dd) ∧ (∀ H, SqT K H Dd items) ∧ ∀ c, 1 ≤ c → c < 24 → ∃ f, items[c]? = some (.ref f) ∧ Held P w K mg base 6 f (spDeed K C CM c)
def nums : List Nat := [0, 5, 1, 2, 2, 1, 1, 2, 1, 1, 1, 1, 1, 1, 1, 2, 1, 2, 3, 0, 0, 0, 0, 0]
structure NumsOk (K : PySem.W.Frag) (mg : Str → Option Value) : Prop where
  ex : ∃ N : Addr, mg "NUMBERS" = some (.ref N) ∧ ∀ H, SqT K H N (nums.map natV)
theorem nums_at {c : Nat} (h : c < 24) : (nums.map natV)[c]? = some (natV (arity c)) := by
  have e : nums[c]? = some (nums.getD c 0) := by
    rw [List.getD_eq_getElem?_getD, List.getElem?_eq_getElem (show c < nums.length from h)]
    rfl
  rw [List.getElem?_map, e]
  rfl
abbrev sAns : Stmt := top 65
theorem scAns : FnScope ["calls", "current", "found", "at", "call", "numbers", "told"] ["calls"] (defScope sAns) := ⟨rfl, rfl, rfl, by decide +kernel, rfl, by decide +kernel, by decide +kernel⟩
def spAns (K : PySem.W.Frag) : Sp := fun vs H Q _ => ∃ (a : Addr) (ns : List Int), vs = [.ref a] ∧ SqL K H a (ns.map V.int) ∧ (∀ x ∈ ns, 0 ≤ x) ∧ PyKh432.answers_asked ns = true ∧
  ∀ (H' : Hp) (p : Addr), H' p = some (.lst ((PyKh432.answers ns).map V.int)) → Q (.ref p) H'
/-- the list at a is read wherever a holds what it held -/
theorem arg_of {K : PySem.W.Frag} {H : Hp} {a : Addr} {xs : List V} (h : SqL K H a xs) : (∃ oa, H a = some oa ∧ ∀ H', H' a = some oa → SqL K H' a xs) ∨ ∀ H', SqL K H' a xs := by
  rcases h with (h | ⟨o, h⟩) | h
  · exact .inl ⟨_, h, fun H' e => .inl (.inl e)⟩
  · exact .inl ⟨_, h, fun H' e => .inl (.inr ⟨o, e⟩)⟩
  · exact .inr fun H' => .inr h
def Arg (K : PySem.W.Frag) (H : Hp) (a F : Addr) (fp : List Addr) (xs : List V) : Prop := (∃ oa, H a = some oa ∧ a ∉ fp ∧ a ≠ F ∧ ∀ H', H' a = some oa → SqL K H' a xs) ∨ ∀ H', SqL K H' a xs
theorem Arg.seq {K : PySem.W.Frag} {H : Hp} {a F : Addr} {fp : List Addr} {xs : List V} (h : Arg K H a F fp xs) : SqL K H a xs := by
  rcases h with ⟨oa, e, _, _, q⟩ | q
  · exact q H e
  · exact q H
theorem cut_nat {ns : List Int} {i j : Nat} (hi : i ≤ j) (hj : j ≤ ns.length) : cutV (ns.map V.int) (some (i : Int)) (some (j : Int)) = ((ns.drop i).take (j - i)).map V.int := by
  unfold cutV
  rw [HT.sIx_nat, HT.sIx_nat, List.length_map, Nat.min_eq_left hj, Nat.min_eq_left (Nat.le_trans hi hj), ← List.map_drop, ← List.map_take]
theorem nat_ints (xs : List Nat) : (ofNats xs).map V.int = xs.map natV := by
  unfold ofNats
  rw [List.map_map]
  rfl
abbrev lenR (K : PySem.W.Frag) : List V → Hp → VK → Prop := fun xs H Q => ∃ p ys, xs = [.ref p] ∧ (SqL K H p ys ∨ SqT K H p ys) ∧ Q (.int ys.length) H
section
variable {P : Program} {w : World} {K : PySem.W.Frag} {mg : Str → Option Value} {base : Heap} {C CM : Addr}
theorem ok_mkt {f : Addr} {fd : FuncData} (F : Fun K "__init__" "Market.__init__" sMkt f fd) (T : Txt K mg C CM) : FnOk P w K mg base CX0 1 f fd ["self"] (spMk C CM) := by
  refine F.ok scMkt (fun vs H Q E h => ?_) (fun cdv A outer s H vs Q E hr h => ?_)
  · obtain ⟨p, dx, rfl, _⟩ := h
    rfl
  · obtain ⟨p, dx, rfl, hp, k⟩ := h
    refine ⟨_, pss_cons (ps_fld (pv 0) (pe_lst pa_nil) rfl) (pss_cons (ps_fld (pv 0) (pe_op op_rep (pe_lst (pa_cons pe_int pa_nil)) (pe_const T.kinds rfl)) rfl) (pss_cons (ps_fld (pv 0) (pe_op op_rep (pe_lst (pa_cons pe_int pa_nil)) (pe_const T.kinds rfl)) rfl) (pss_one (ps_fld (pv 0) pe_int rfl)))), ?_⟩
    -- self.lots = []
    refine ⟨Nat.zero_le _, fun L nL => ?_⟩
    have pL : p ≠ L := ne_of_none hp nL
    have hp1 : upd H L (.lst []) p = some (.ins CM dx []) := by rw [upd_ne pL]; exact hp
    refine ⟨_, rfl, p, CM, dx, _, rfl, hp1, T.cm, T.mL, (by show 0 < 1000; decide), ?_⟩
    have x2 : Sx p H (upd (upd H L (.lst [])) p (.ins CM dx (putF "lots" (.ref L) []))) := (Sx.of (same_new nL)).upd
    have hp2 : upd (upd H L (.lst [])) p (.ins CM dx (putF "lots" (.ref L) [])) p = some (.ins CM dx (putF "lots" (.ref L) [])) := upd_same
    have hL2 : upd (upd H L (.lst [])) p (.ins CM dx (putF "lots" (.ref L) [])) L = some (.lst []) := by rw [upd_ne pL.symm, upd_same]
    generalize upd (upd H L (.lst [])) p (.ins CM dx (putF "lots" (.ref L) [])) = H2 at *
    -- self.demand = [0] * KINDS
    refine ⟨(by show 1 ≤ sizeLine; decide), fun q1 nq1 => ⟨q1, 3, [.int 0], rfl, rfl, upd_same, by decide, by decide, by decide, fun D nD => ?_⟩⟩
    have s3 := same_upd (same_new (o := .lst [.int 0]) nq1) (by
      have z := (same_new (o := .lst [.int 0]) nq1).free nD
      exact z) (o := .lst (List.replicate (3 : Int).toNat [V.int 0]).flatten)
    have hD3 := upd_same (H := upd H2 q1 (.lst [.int 0])) (a := D) (o := .lst (List.replicate (3 : Int).toNat [V.int 0]).flatten)
    have nD2 := (same_new (o := .lst [.int 0]) nq1).free nD
    have hp3 := s3 _ _ hp2
    have hL3 := s3 _ _ hL2
    generalize upd (upd H2 q1 (.lst [.int 0])) D (.lst (List.replicate (3 : Int).toNat [V.int 0]).flatten) = H3 at *
    have pD : p ≠ D := ne_of_none hp2 nD2
    have lD : L ≠ D := ne_of_none hL2 nD2
    refine ⟨_, rfl, p, CM, dx, _, rfl, hp3, T.cm, T.mD, ?_, ?_⟩
    · exact Nat.lt_of_le_of_lt (length_putF _ _ _) (by show 1 < 1000; decide)
    have x4 : Sx p H (upd H3 p (.ins CM dx (putF "demand" (.ref D) (putF "lots" (.ref L) [])))) := (x2.trans (Sx.of s3)).upd
    have hp4 := upd_same (H := H3) (a := p) (o := .ins CM dx (putF "demand" (.ref D) (putF "lots" (.ref L) [])))
    have hL4 : upd H3 p (.ins CM dx (putF "demand" (.ref D) (putF "lots" (.ref L) []))) L = some (.lst []) := by rw [upd_ne pL.symm]; exact hL3
    have hD4 : upd H3 p (.ins CM dx (putF "demand" (.ref D) (putF "lots" (.ref L) []))) D = some (.lst (List.replicate (3 : Int).toNat [V.int 0]).flatten) := by rw [upd_ne pD.symm]; exact hD3
    generalize upd H3 p (.ins CM dx (putF "demand" (.ref D) (putF "lots" (.ref L) []))) = H4 at *
    -- self.bought = [0] * KINDS
    refine ⟨(by show 1 ≤ sizeLine; decide), fun q2 nq2 => ⟨q2, 3, [.int 0], rfl, rfl, upd_same, by decide, by decide, by decide, fun B nB => ?_⟩⟩
    have nB2 := (same_new (o := .lst [.int 0]) nq2).free nB
    have s5 := same_upd (same_new (o := .lst [.int 0]) nq2) nB2 (o := .lst (List.replicate (3 : Int).toNat [V.int 0]).flatten)
    have hB5 := upd_same (H := upd H4 q2 (.lst [.int 0])) (a := B) (o := .lst (List.replicate (3 : Int).toNat [V.int 0]).flatten)
    have hp5 := s5 _ _ hp4
    have hL5 := s5 _ _ hL4
    have hD5 := s5 _ _ hD4
    generalize upd (upd H4 q2 (.lst [.int 0])) B (.lst (List.replicate (3 : Int).toNat [V.int 0]).flatten) = H5 at *
    have pB : p ≠ B := ne_of_none hp4 nB2
    have lB : L ≠ B := ne_of_none hL4 nB2
    have dB : D ≠ B := ne_of_none hD4 nB2
    refine ⟨_, rfl, p, CM, dx, _, rfl, hp5, T.cm, T.mB, ?_, ?_⟩
    · exact Nat.lt_of_le_of_lt (length_putF _ _ _) (Nat.lt_of_le_of_lt (Nat.add_le_add_right (length_putF _ _ _) 1) (by show 2 < 1000; decide))
    have x6 : Sx p H (upd H5 p (.ins CM dx (putF "bought" (.ref B) (putF "demand" (.ref D) (putF "lots" (.ref L) []))))) := (x4.trans (Sx.of s5)).upd
    refine ⟨_, rfl, p, CM, dx, _, rfl, upd_same, T.cm, T.mS, ?_, ?_⟩
    · exact Nat.lt_of_le_of_lt (length_putF _ _ _) (Nat.lt_of_le_of_lt (Nat.add_le_add_right (length_putF _ _ _) 1) (Nat.lt_of_le_of_lt (Nat.add_le_add_right (Nat.add_le_add_right (length_putF _ _ _) 1) 1) (by show 3 < 1000; decide)))
    have x7 := x6.upd (o := .ins CM dx (putF "spent" (natV 0) (putF "bought" (.ref B) (putF "demand" (.ref D) (putF "lots" (.ref L) [])))))
    have np : ∀ {Hx : Hp} {o : HO}, Hx p = some o → Hx p ≠ none := fun e z => by rw [e] at z; cases z
    refine k _ (fpOf p L D B []) ⟨L, D, B, [], rfl, ⟨⟨dx, ?_⟩, ?_, LotsAt.nil, ?_, ?_, List.nodup_nil, lD, lB, dB, by simp⟩⟩ (fun b hb => ?_) x7
    · rw [upd_same]
      exact congrArg (fun q => some (HO.ins CM dx q)) (mF_new L D B 0)
    · rw [upd_ne pL.symm, upd_ne pL.symm]
      exact hL5
    · rw [upd_ne pD.symm, upd_ne pD.symm]
      exact hD5
    · rw [upd_ne pB.symm, upd_ne pB.symm]
      exact hB5
    · unfold fpOf at hb
      simp only [List.mem_cons, List.not_mem_nil, or_false] at hb
      rcases hb with rfl | rfl | rfl | rfl
      · exact .inl rfl
      · exact .inr nL
      · exact .inr (x2.free (np hp2) nD2)
      · exact .inr (x4.free (np hp4) nB2)
theorem ok_answer {f : Addr} {fd : FuncData} (F : Fun K "answer" "answer" sAnswer f fd) (D : DeedsOk P w K mg base C CM) : FnOk P w K mg base CX0 7 f fd ["current", "call", "numbers"] (spAnswer K C CM) := by
  refine F.ok scAnswer (fun vs H Q E h => ?_) (fun cdv A outer s H vs Q E hr h => ?_)
  · obtain ⟨v, st, fp, c, a, xs, rfl, _⟩ := h
    rfl
  · obtain ⟨v, st, fp, c, a, xs, rfl, hc, h1, h2, hS, hl, k⟩ := h
    obtain ⟨Dd, items, gD, tD, hD⟩ := D.ex
    refine ⟨_, pss_cons (ps_if (pt_cmp (pc_isN (pv 0)) rfl) (pss_one (ps_ret (pe_lst (pa_cons (pe_un un_neg pe_int) pa_nil)))) pss_nil)
      (pss_cons (ps_set (i := 3) scAnswer.nd rfl (.inl rfl) (pe_ix ix_tup (pe_glob (v := .ref Dd) rfl gD rfl) (pv 1) (fun _ _ => rfl)))
      (pss_one (ps_ret (pe_held (i := 3) hr rfl (.inl rfl) (pa_cons (pv 0) (pa_cons (pv 2) pa_nil)))))), ?_⟩
    have hc0 : c ≠ 0 := by omega
    cases st with
    | none =>
      obtain ⟨rfl, rfl⟩ := hc
      rw [exec_none xs hc0] at k
      refine ⟨_, rfl, _, rfl, ?_⟩
      refine if_of (d := true) rfl (fun _ => ⟨_, rfl, (by show 1 ≤ sizeLine; decide), fun r nr => ?_⟩) (fun z => nomatch z)
      exact k _ r ⟨[], ⟨rfl, rfl⟩, by simp, fun b o e _ => same_new nr b o e⟩ nr upd_same
    | some m =>
      obtain ⟨p, rfl, M, hg⟩ := hc
      rw [exec_some m xs hc0] at k
      refine ⟨_, rfl, _, rfl, ?_⟩
      refine if_of (d := false) rfl (fun z => nomatch z) (fun _ => ?_)
      obtain ⟨g, hg1, hh⟩ := hD c h1 h2
      refine ⟨_, rfl, Dd, items, _, .ref g, rfl, rfl, tD H, atI_nat hg1, g, spDeed K C CM c, rfl, hh, _, rfl, _, rfl, p, a, m, fp, xs, rfl, M, hg, hS, hl, fun H' r ch nr lr => ?_⟩
      refine k H' r ?_ nr lr
      obtain ⟨fp', c1, c2, c3, _⟩ := ch
      exact ⟨fp', ⟨p, rfl, c1, good_apply hg _⟩, c2, c3⟩
/-- found.append(len(told)); found.extend(told) -/
theorem ans_tail {D : Ends} {H : Hp} {σ : L2.St} {F r : Addr} {out : List Int} {R : Kh432.Result} (h2 : σ[2]? = some (some (.ref F))) (h6 : σ[6]? = some (some (.ref r))) (hF : H F = some (.lst (out.map V.int))) (hr : H r = some (.lst (ansV R))) (hne : F ≠ r)
    (hz : out.length + 1 + (res R).length ≤ 10000000) (k : D.nx σ (upd (upd H F (.lst (out.map V.int ++ [V.int ((ansV R).length : Nat)]))) F (.lst (out.map V.int ++ [V.int ((ansV R).length : Nat)] ++ ansV R)))) :
    tSeq (tDrop (tBM K "list" rAppend (tVar 2) (tCons (tCB (lenR K) (tCons (tVar 6) tNil)) tNil))) (tDrop (tBM K "list" rExtend (tVar 2) (tCons (tVar 6) tNil))) D σ H := by
  refine ⟨_, h2, .inl ⟨rfl, _, SqL.of hF⟩, _, h6, _, _, rfl, .inl (SqL.of hr), F, _, _, rfl, rfl, hF, ?_, ?_⟩
  · rw [List.length_map]
    exact line' _ (by omega)
  · refine ⟨_, h2, .inl ⟨rfl, _, SqL.of upd_same⟩, _, h6, F, r, _, _, rfl, rfl, upd_same, by rw [upd_ne hne.symm]; exact hr, ?_, k⟩
    have e : (ansV R).length = (res R).length := by unfold ansV; rw [List.length_map]
    rw [List.length_append, List.length_map, e]
    exact line _ (by show out.length + 1 + _ ≤ _; omega)
end
end Lc
/-! part LcO -/
namespace Lc
open PySem PySem.Spec PyProof.Rows L2

section
variable {K : PySem.W.Frag} {C CM : Addr} {H H' : Hp} {p F a : Addr} {m : Kh432.Market} {fp : List Addr} {v : V} {o : HO}
theorem Mkt.out (M : Mkt C CM H p m fp) (hF : F ∉ fp) : Mkt C CM (upd H F o) p m fp := by
  obtain ⟨L, D, B, as, rfl, ⟨dx, hp⟩, h2, h3, h4, h5, h6, h7, h8, h9, h10⟩ := M
  unfold fpOf at hF
  simp only [List.mem_cons, not_or] at hF
  obtain ⟨f1, f2, f3, f4, f5⟩ := hF
  refine ⟨L, D, B, as, rfl, ⟨⟨dx, by rw [upd_ne (Ne.symm f1)]; exact hp⟩, by rw [upd_ne (Ne.symm f2)]; exact h2, ⟨h3.len, fun i b l e1 e2 => ?_⟩, by rw [upd_ne (Ne.symm f3)]; exact h4, by rw [upd_ne (Ne.symm f4)]; exact h5, h6, h7, h8, h9, h10⟩⟩
  obtain ⟨dy, e⟩ := h3.lot i b l e1 e2
  exact ⟨dy, by rw [upd_ne (fun z => f5 (by rw [← z]; exact List.mem_of_getElem? e1))]; exact e⟩
theorem Cur.same {s : Option Kh432.Market} (h : Cur C CM H v fp s) (sm : Same H H') : Cur C CM H' v fp s := by
  cases s with
  | none => exact h
  | some m =>
    obtain ⟨p, e, M, g⟩ := h
    exact ⟨p, e, M.same sm, g⟩
theorem Cur.out {s : Option Kh432.Market} (h : Cur C CM H v fp s) (hF : F ∉ fp) : Cur C CM (upd H F o) v fp s := by
  cases s with
  | none => exact h
  | some m =>
    obtain ⟨p, e, M, g⟩ := h
    exact ⟨p, e, M.out hF, g⟩
theorem Arg.same {xs : List V} (h : Arg K H a F fp xs) (sm : Same H H') : Arg K H' a F fp xs := by
  rcases h with ⟨oa, e, h1, h2, q⟩ | q
  · exact .inl ⟨oa, sm _ _ e, h1, h2, q⟩
  · exact .inr q
theorem Arg.out {xs : List V} (h : Arg K H a F fp xs) : Arg K (upd H F o) a F fp xs := by
  rcases h with ⟨oa, e, h1, h2, q⟩ | q
  · exact .inl ⟨oa, by rw [upd_ne h2]; exact e, h1, h2, q⟩
  · exact .inr q
/-- the market's addresses change -/
theorem Arg.next {xs : List V} {fp' : List Addr} (h : Arg K H a F fp xs) (h1 : ∀ b ∈ fp', b ∈ fp ∨ H b = none) (h2 : ∀ b o, H b = some o → b ∉ fp → H' b = some o) : Arg K H' a F fp' xs := by
  rcases h with ⟨oa, e, h3, h4, q⟩ | q
  · refine .inl ⟨oa, h2 _ _ e h3, fun z => ?_, h4, q⟩
    rcases h1 a z with z | z
    · exact h3 z
    · rw [e] at z
      cases z
  · exact .inr q
end
/-- ahead of a turn: at_ numbers are read, out is answered, s is the market -/
def LoopInv (K : PySem.W.Frag) (C CM a Fa : Addr) (ns : List Int) (n : Nat) (σ : L2.St) (H' : Hp) : Prop :=
  ∃ (at_ f : Nat) (s : Option Kh432.Market) (raw : List (List (List Int))) (out : List Int) (fp : List Addr) (v : V) (x4 x5 x6 : Option V), n = ns.length - at_ ∧ at_ ≤ ns.length ∧ PyFlat.calls PyKh432.shape f (ns.drop at_) = some raw ∧
      out ++ answersFrom s raw = PyKh432.answers ns ∧ Cur C CM H' v fp s ∧ Fa ∉ fp ∧ H' Fa = some (.lst (out.map V.int)) ∧ Arg K H' a Fa fp (ns.map V.int) ∧ σ = [some (.ref a), some v, some (.ref Fa), some (natV at_), x4, x5, x6]
section
variable {P : Program} {w : World} {K : PySem.W.Frag} {mg : Str → Option Value} {base : Heap} {C CM : Addr}
theorem ok_ans {f : Addr} {fd : FuncData} (F : Fun K "answers" "answers" sAns f fd) (T : Txt K mg C CM) (NO : NumsOk K mg) (D1 : Def P w K mg base "answer" 7 ["current", "call", "numbers"] (spAnswer K C CM)) (D2 : ClsDef P w K mg base "Market" CM 1 ["self"] (spMk C CM)) :
    FnOk P w K mg base CX0 8 f fd ["calls"] (spAns K) := by
  refine F.ok scAns (fun vs H Q E h => ?_) (fun cdv A outer s H vs Q E hr h => ?_)
  · obtain ⟨a, ns, rfl, _⟩ := h
    rfl
  · obtain ⟨a, ns, rfl, hS, hpos, hasked, k⟩ := h
    obtain ⟨raw0, hraw0, hmax⟩ := asked_is hasked
    obtain ⟨N, gN, tN⟩ := NO.ex
    have hr2 : Room 2 _ := hr.mono (by decide)
    refine ⟨_, pss_cons (ps_set (i := 1) scAns.nd rfl (.inl rfl) pe_non) (pss_cons (ps_set (i := 2) scAns.nd rfl (.inl rfl) (pe_lst pa_nil)) (pss_cons (ps_set (i := 3) scAns.nd rfl (.inl rfl) pe_int)
      (pss_cons (ps_while PassesOwn.never (pt_cmpR op_lt (pv 3) (pe_callB call_len_seq (by rfl) T.len PySem.boot_len (pa_cons (pv 0) pa_nil)) (nomark _))
        (pss_cons (ps_set (i := 4) scAns.nd rfl (.inl rfl) (pe_ix ix_list (pv 0) (pv 3) (fun _ _ => rfl)))
        (pss_cons (ps_set (i := 5) scAns.nd rfl (.inl rfl) (pe_slice sl_list (pv 0) (po_some (pe_op op_add (pv 3) pe_int)) (po_some (pe_op op_add (pe_op op_add (pv 3) pe_int) (pe_ix ix_tup (pe_glob (v := .ref N) rfl gN rfl) (pv 4) (fun _ _ => rfl))))))
        (pss_cons (ps_aug (i := 3) scAns.nd rfl (.inl rfl) (pe_op op_add pe_int (pe_ix ix_tup (pe_glob (v := .ref N) rfl gN rfl) (pv 4) (fun _ _ => rfl))) ip_add)
        (pss_cons (ps_if (pt_cmpR op_eq (pv 4) (pe_const T.create rfl) (nomark _)) (pss_cons (ps_set (i := 1) scAns.nd rfl (.inl rfl) (pe_new0 D2 hr2 rfl)) (pss_one (ps_set (i := 6) scAns.nd rfl (.inl rfl) (pe_lst (pa_cons pe_int pa_nil)))))
          (pss_one (ps_set (i := 6) scAns.nd rfl (.inl rfl) (pe_def D1 hr rfl (pa_cons (pv 1) (pa_cons (pv 4) (pa_cons (pv 5) pa_nil)))))))
        (pss_cons (ps_expr (pe_bm PySem.F.plainAttrs_list PySem.F.slot_list_append PySem.F.type_list_append mt_append (pv 2) (pa_cons (pe_callB call_len_seq (by rfl) T.len PySem.boot_len (pa_cons (pv 6) pa_nil)) pa_nil)))
        (pss_one (ps_expr (pe_bm PySem.F.plainAttrs_list PySem.F.slot_list_extend PySem.F.type_list_extend mt_extend (pv 2) (pa_cons (pv 6) pa_nil))))))))))
      (pss_one (ps_ret (pv 2)))))), ?_⟩
    refine ⟨Nat.zero_le _, fun Fa nF => ?_⟩
    have s0 := same_new (o := .lst []) nF
    have arg0 : Arg K (upd H Fa (.lst [])) a Fa [] (ns.map V.int) := by
      rcases arg_of hS with ⟨oa, e, q⟩ | q
      · exact .inl ⟨oa, s0 _ _ e, by simp, ne_of_none e nF, q⟩
      · exact .inr q
    refine ⟨LoopInv K C CM a Fa ns,
      ⟨ns.length, 0, ns.length, none, raw0, [], [], .non, none, none, none, by omega, Nat.zero_le _, hraw0, (answers_is hraw0).symm, ⟨rfl, rfl⟩, by simp, upd_same, arg0, rfl⟩, ?_⟩
    rintro n σ H' ⟨at_, f', st, raw, out, fp, v, x4, x5, x6, rfl, hat, hraw, hout, hcur, hF, hl, harg, rfl⟩
    refine ⟨_, rfl, _, rfl, _, _, rfl, .inl harg.seq, _, _, rfl, rfl, _, rfl, ?_⟩
    have ec : decide ((at_ : Int) < (((ns.map V.int).length : Nat) : Int)) = decide (at_ < ns.length) := by rw [List.length_map]; exact dec_lt _ _
    refine if_of ec (fun c => ?_) (fun c => ?_)
    · -- one call more
      have hlt := of_decide_eq_true c
      have hdrop : ns.drop at_ = ns[at_] :: ns.drop (at_ + 1) := List.drop_eq_getElem_cons hlt
      rw [hdrop] at hraw
      obtain ⟨cn, f2, raw', ecn, hcn, har, rfl, hraw'⟩ := calls_turn hraw
      obtain ⟨xs, hxs⟩ := nats_of (l := (ns.drop (at_ + 1)).take (arity cn)) fun x hx => hpos x (List.mem_of_mem_drop (List.mem_of_mem_take hx))
      have hxl : xs.length = arity cn := by
        have e := congrArg List.length hxs
        unfold ofNats at e
        rw [List.length_take, List.length_map] at e
        omega
      rw [hxs, ecn] at hout
      rw [from_cons] at hout
      rw [List.drop_drop] at hraw'
      have har' : at_ + 1 + arity cn ≤ ns.length := by
        rw [List.length_drop] at har
        omega
      have hget : (ns.map V.int)[at_]? = some (natV cn) := by
        rw [List.getElem?_map, List.getElem?_eq_getElem hlt, ecn]
        rfl
      have hsz : out.length + 1 + (res (Kh432.execute st (callN cn xs)).2).length ≤ 10000000 := by
        have e := congrArg List.length hout
        rw [List.length_append, List.length_cons, List.length_append] at e
        omega
      generalize hR : (Kh432.execute st (callN cn xs)) = ex at *
      refine ⟨fun σ' H2 => ∃ m', m' < ns.length - at_ ∧ LoopInv K C CM a Fa ns m' σ' H2, fun σ' H2 z => z, ?_⟩
      -- call = calls[at]
      refine ⟨_, rfl, _, rfl, a, _, _, natV cn, rfl, rfl, harg.seq, atI_nat hget, ?_⟩
      -- numbers = calls[at + 1:at + 1 + NUMBERS[call]]
      have etw : ∀ i j : Nat, V.int ((i : Int) + (j : Int)) = natV (i + j) := fun i j => by
        unfold natV
        congr 1
      refine ⟨_, rfl, _, rfl, _, _, rfl, rfl, _, rfl, _, rfl, _, _, rfl, rfl, _, rfl, N, _, _, natV (arity cn), rfl, rfl, tN H', atI_nat (nums_at hcn), _, _, rfl, rfl, _, rfl, a, _, rfl, harg.seq, fun q nq => ?_⟩
      have ecut : cutV (ns.map V.int) (some ((at_ : Int) + 1)) (some ((at_ : Int) + 1 + ((arity cn : Nat) : Int))) = xs.map natV := by
        have e := cut_nat (ns := ns) (i := at_ + 1) (j := at_ + 1 + arity cn) (by omega) har'
        rw [show at_ + 1 + arity cn - (at_ + 1) = arity cn by omega, hxs, nat_ints] at e
        rw [← e]
        rfl
      rw [ecut]
      have s1 := same_new (o := .lst (xs.map natV)) nq
      have hq := upd_same (H := H') (a := q) (o := .lst (xs.map natV))
      have hcur1 := hcur.same s1
      have hl1 := s1 _ _ hl
      have harg1 := harg.same s1
      generalize upd H' q (.lst (xs.map natV)) = H1 at *
      -- at += 1 + NUMBERS[call]
      refine ⟨natV at_, rfl, _, rfl, N, _, _, natV (arity cn), rfl, rfl, tN H1, atI_nat (nums_at hcn), _, _, rfl, rfl, _, _, rfl, rfl, ?_⟩
      have eat : V.int ((at_ : Int) + (1 + ((arity cn : Nat) : Int))) = natV (at_ + 1 + arity cn) := by
        unfold natV
        congr 1
        omega
      rw [eat]
      -- if call == CREATE
      have e0 : decide (natV cn = V.int 0) = decide (cn = 0) := by
        rw [decide_eq_decide]
        unfold natV
        constructor
        · intro z
          injection z with z
          omega
        · intro z
          rw [z]
          rfl
      have fin : ∀ (H2 : Hp) (v' : V) (fp' : List Addr) (r : Addr), Cur C CM H2 v' fp' ex.1 → Fa ∉ fp' → H2 Fa = some (.lst (out.map V.int)) → Arg K H2 a Fa fp' (ns.map V.int) →
          ∃ m', m' < ns.length - at_ ∧ LoopInv K C CM a Fa ns m' [some (.ref a), some v', some (.ref Fa), some (natV (at_ + 1 + arity cn)), some (natV cn), some (.ref q), some (.ref r)]
            (upd (upd H2 Fa (.lst (out.map V.int ++ [V.int ((ansV ex.2).length : Nat)]))) Fa (.lst (out.map V.int ++ [V.int ((ansV ex.2).length : Nat)] ++ ansV ex.2))) := by
        intro H2 v' fp' r c1 c2 c3 c4
        refine ⟨ns.length - (at_ + 1 + arity cn), by omega, at_ + 1 + arity cn, f2, ex.1, raw', out ++ ((res ex.2).length : Int) :: res ex.2, fp', v', _, _, _, rfl, har', hraw', ?_, (c1.out c2).out c2, c2, ?_, c4.out.out, rfl⟩
        · rw [← hout, List.append_assoc]
          rfl
        · rw [upd_same]
          congr 2
          unfold ansV
          rw [List.length_map, List.map_append, List.map_cons, List.append_assoc]
          rfl
      refine ⟨_, rfl, rfl, _, rfl, ?_⟩
      refine if_of e0 (fun c0 => ?_) (fun c0 => ?_)
      · -- a new market
        have c0 := of_decide_eq_true c0
        subst c0
        intro x dx nx ndx ne
        refine ⟨x, dx, rfl, upd_same, fun H2 fp2 M2 hfp2 fr2 => ⟨rfl, (by show 1 ≤ sizeLine; decide), fun r nr => ?_⟩⟩
        rw [exec_create] at hR
        subst hR
        have s12 : Same H1 H2 := Same.made nx ndx fr2
        have new2 : ∀ b ∈ fp2, H1 b = none := fun b hb => by
          rcases hfp2 b hb with z | z
          · rw [z]
            exact nx
          · by_cases e1 : b = x
            · rw [e1]
              exact nx
            · rw [upd_ne e1] at z
              by_cases e2 : b = dx
              · rw [e2]
                exact ndx
              · rw [upd_ne e2] at z
                exact z
        have hF2 : Fa ∉ fp2 := fun z => by
          have e := new2 Fa z
          rw [hl1] at e
          cases e
        have arg2 : Arg K H2 a Fa fp2 (ns.map V.int) := harg1.next (fun b hb => .inr (new2 b hb)) fun b o e _ => s12 b o e
        have s23 := same_new (o := .lst [V.int 0]) nr
        have hl3 := s23 _ _ (s12 _ _ hl1)
        refine ans_tail (R := Kh432.single 0) rfl rfl hl3 upd_same (ne_of_none (s12 _ _ hl1) nr) hsz ?_
        exact fin _ (.ref x) fp2 r (Cur.same (s := some newM) ⟨x, rfl, M2, good_new⟩ s23) hF2 hl3 (arg2.same s23)
      · have c0 := of_decide_eq_false c0
        refine ⟨_, rfl, _, rfl, _, rfl, v, st, fp, cn, q, xs, rfl, hcur1, by omega, hcn, SqL.of hq, hxl, fun H2 r af nr lr => ?_⟩
        rw [hR] at af lr
        obtain ⟨fp', d1, d2, d3⟩ := af
        have hF2 : Fa ∉ fp' := fun z => by
          rcases d2 Fa z with z | z
          · exact hF z
          · rw [hl1] at z
            cases z
        refine ans_tail (R := ex.2) rfl rfl (d3 _ _ hl1 hF) lr (ne_of_none hl1 nr) hsz ?_
        exact fin _ v fp' r d1 hF2 (d3 _ _ hl1 hF) (harg1.next d2 d3)
    · have hge := of_decide_eq_false c
      have : at_ = ns.length := by omega
      subst this
      rw [List.drop_length] at hraw
      have e := calls_nil hraw
      subst e
      rw [from_nil, List.append_nil] at hout
      subst hout
      exact ⟨_, rfl, k H' Fa hl⟩
end
end Lc
/-! part LcEnd -/
namespace Lc
open PySem PySem.Spec PyProof.Rows L2

/-- a def of the top, as it stands behind it -/
structure At (K : PySem.W.Frag) (mg : Str → Option Value) (x qual : Str) (st : Stmt) (ps : List Str) (f : Addr) : Prop where
  ex : ∃ fd : FuncData, Fun K x qual st f fd ∧ ∀ us : List Value, us.length = ps.length → bindArgs fd ⟨us, []⟩ = pure (ps.zip us)
abbrev Bd (x qual : Str) (st : Stmt) (ps : List Str) : Prop := ∀ (kV doc pm : Value) (an : Option Addr) (cdv ct : Value) (us : List Value), us.length = ps.length → bindArgs (PySem.W.fnOf x qual (defArgs st) (defBody st) (defScope st) .none kV doc pm an cdv ct) ⟨us, []⟩ = pure (ps.zip us)
theorem at_mk {K : PySem.W.Frag} {mg : Str → Option Value} {x qual : Str} {st : Stmt} {ps : List Str} {f : Addr} {oc : Value} {od an : Option Addr} {osl : Array (Option Value)} {kV doc pm cdv ct : Value} (b : Bd x qual st ps)
    (l : K.lookup f = some ⟨oc, od, .func (PySem.W.fnOf x qual (defArgs st) (defBody st) (defScope st) .none kV doc pm an cdv ct), osl⟩) (c : PySem.W.codeIn K cdv qual = true) (k : PySem.W.keepIn K (.ref f) = true) : At K mg x qual st ps f :=
  ⟨_, fun_mk l c k, b kV doc pm an cdv ct⟩
theorem At.def {P : Program} {w : World} {K : PySem.W.Frag} {mg : Str → Option Value} {base : Heap} {x qual : Str} {st : Stmt} {ps : List Str} {f : Addr} {k : Nat} {sp : Sp} (A : At K mg x qual st ps f) (g : mg x = some (.ref f))
    (ok : ∀ fd, Fun K x qual st f fd → FnOk P w K mg base CX0 k f fd ps sp) : Def P w K mg base x k ps sp := by
  obtain ⟨fd, F, b⟩ := A.ex
  exact ⟨f, fd, ok fd F, g, F.kp, .all b⟩
theorem At.held {P : Program} {w : World} {K : PySem.W.Frag} {mg : Str → Option Value} {base : Heap} {x qual : Str} {st : Stmt} {ps : List Str} {f : Addr} {j k : Nat} {sp : Sp} (A : At K mg x qual st ps f) (h : j ≤ k)
    (ok : ∀ fd, Fun K x qual st f fd → FnOk P w K mg base CX0 j f fd ps sp) : Held P w K mg base k f sp := by
  obtain ⟨fd, F, b⟩ := A.ex
  exact ⟨fd, ps, (ok fd F).mono h, F.kp, .all b⟩
theorem At.cls {P : Program} {w : World} {K : PySem.W.Frag} {mg : Str → Option Value} {base : Heap} {y x qual : Str} {st : Stmt} {ps : List Str} {f C : Addr} {k : Nat} {sp : Sp} (A : At K mg x qual st ps f) (g : mg y = some (.ref C)) (M : Mk K C f)
    (ok : ∀ fd, Fun K x qual st f fd → FnOk P w K mg base CX0 k f fd ps sp) : ClsDef P w K mg base y C k ps sp := by
  obtain ⟨fd, F, b⟩ := A.ex
  exact ⟨f, fd, ok fd F, g, M, .all b⟩
theorem int_of {mg : Str → Option Value} {x : Str} {i : Int} {t : Tok} (h : mg x = some (.int i t)) : ∃ t, mg x = some (.int i t) := ⟨t, h⟩
theorem abs_vals : ∀ {us : List Value} {vs : List V}, us.map absV = vs.map some → Vals vs us
  | [], [], _ => .nil
  | [], _ :: _, h => by cases h
  | _ :: _, [], h => by cases h
  | u :: us, v :: vs, h => by
    have h1 := (List.cons.inj h).1
    have h2 := (List.cons.inj h).2
    refine .cons ?_ (abs_vals h2)
    cases u <;> first
      | (cases h1; exact rfl)
      | (cases h1; exact ⟨_, rfl⟩)
      | cases h1
theorem tup_of {K : PySem.W.Frag} {a : Addr} {od : Option Addr} {its : Array Value} {n : Nat} {sl : Array (Option Value)} {vs : List V} (l : K.lookup a = some ⟨.type "tuple", od, .seq its n, sl⟩) (e : its.toList.map absV = vs.map some) (z : vs.length ≤ 1000) : ∀ H, SqT K H a vs := fun H => by
  have r := abs_vals e
  refine .inr ⟨_, its, n, l, rfl, rfl, ?_, r⟩
  have h := r.length
  have h2 : its.toList.length = its.size := Array.length_toList
  have h3 : its.size ≤ 1000 := by omega
  exact Nat.le_trans h3 (line 1000 (by decide))

theorem bd_bit_of : Bd "bit_of" "bit_of" sBit ["number"] := fun _ _ _ _ _ _ us hl => match us, hl with | [_], _ => rfl
theorem bd_members : Bd "members" "members" sMem ["mask", "many"] := fun _ _ _ _ _ _ us hl => match us, hl with | [_, _], _ => rfl
theorem bd_lots_in : Bd "lots_in" "lots_in" sIn ["market", "mask"] := fun _ _ _ _ _ _ us hl => match us, hl with | [_, _], _ => rfl
theorem bd_end_of : Bd "end_of" "end_of" sEnd ["lot"] := fun _ _ _ _ _ _ us hl => match us, hl with | [_], _ => rfl
theorem bd_overlap : Bd "overlap" "overlap" sOver ["one", "other"] := fun _ _ _ _ _ _ us hl => match us, hl with | [_, _], _ => rfl
theorem bd_on_sale : Bd "on_sale" "on_sale" sOn ["lots", "second"] := fun _ _ _ _ _ _ us hl => match us, hl with | [_, _], _ => rfl
theorem bd_buyers_needed : Bd "buyers_needed" "buyers_needed" sNeed ["lots"] := fun _ _ _ _ _ _ us hl => match us, hl with | [_], _ => rfl
theorem bd_cost_of : Bd "cost_of" "cost_of" sCost ["lots"] := fun _ _ _ _ _ _ us hl => match us, hl with | [_], _ => rfl
theorem bd_units_of : Bd "units_of" "units_of" sUnits ["lots"] := fun _ _ _ _ _ _ us hl => match us, hl with | [_], _ => rfl
theorem bd_units_by_kind : Bd "units_by_kind" "units_by_kind" sBy ["lots"] := fun _ _ _ _ _ _ us hl => match us, hl with | [_], _ => rfl
theorem bd_last_end : Bd "last_end" "last_end" sLast ["lots"] := fun _ _ _ _ _ _ us hl => match us, hl with | [_], _ => rfl
theorem bd_covers : Bd "covers" "covers" sCov ["lots", "demand"] := fun _ _ _ _ _ _ us hl => match us, hl with | [_, _], _ => rfl
theorem bd_shortfall : Bd "shortfall" "shortfall" sShort ["lots", "demand"] := fun _ _ _ _ _ _ us hl => match us, hl with | [_, _], _ => rfl
theorem bd_buy : Bd "buy" "buy" sBuy ["market", "mask"] := fun _ _ _ _ _ _ us hl => match us, hl with | [_, _], _ => rfl
theorem bd_masks_of : Bd "masks_of" "masks_of" sMasks ["market"] := fun _ _ _ _ _ _ us hl => match us, hl with | [_], _ => rfl
theorem bd_plans : Bd "plans" "plans" sPlans ["market", "buyers", "demand"] := fun _ _ _ _ _ _ us hl => match us, hl with | [_, _, _], _ => rfl
theorem bd_cheapest_of : Bd "cheapest_of" "cheapest_of" sCheapOf ["market", "masks"] := fun _ _ _ _ _ _ us hl => match us, hl with | [_, _], _ => rfl
theorem bd_cheapest : Bd "cheapest" "cheapest" sCheap ["market", "buyers"] := fun _ _ _ _ _ _ us hl => match us, hl with | [_, _], _ => rfl
theorem bd_earliest : Bd "earliest" "earliest" sEarl ["market", "buyers"] := fun _ _ _ _ _ _ us hl => match us, hl with | [_, _], _ => rfl
theorem bd_plans_without : Bd "plans_without" "plans_without" sWithout ["market", "buyers", "number"] := fun _ _ _ _ _ _ us hl => match us, hl with | [_, _, _], _ => rfl
theorem bd_is_better : Bd "is_better" "is_better" sBetter ["one", "other"] := fun _ _ _ _ _ _ us hl => match us, hl with | [_, _], _ => rfl
theorem bd_most_units : Bd "most_units" "most_units" sMost ["market", "buyers", "budget"] := fun _ _ _ _ _ _ us hl => match us, hl with | [_, _, _], _ => rfl
theorem bd_first_free : Bd "first_free" "first_free" sFree ["ends", "start"] := fun _ _ _ _ _ _ us hl => match us, hl with | [_, _], _ => rfl
theorem bd_assignment : Bd "assignment" "assignment" sAsg ["market", "mask"] := fun _ _ _ _ _ _ us hl => match us, hl with | [_, _], _ => rfl
theorem bd_has_lot : Bd "has_lot" "has_lot" sHas ["market", "number"] := fun _ _ _ _ _ _ us hl => match us, hl with | [_, _], _ => rfl
theorem bd_is_set : Bd "is_set" "is_set" sIsSet ["market", "mask"] := fun _ _ _ _ _ _ us hl => match us, hl with | [_, _], _ => rfl
theorem bd_are_buyers : Bd "are_buyers" "are_buyers" sAre ["number"] := fun _ _ _ _ _ _ us hl => match us, hl with | [_], _ => rfl
theorem bd_indices : Bd "indices" "indices" sIdx ["market", "mask"] := fun _ _ _ _ _ _ us hl => match us, hl with | [_, _], _ => rfl
theorem bd_plan_answer : Bd "plan_answer" "plan_answer" sPlanAns ["market", "mask"] := fun _ _ _ _ _ _ us hl => match us, hl with | [_, _], _ => rfl
theorem bd_add_lot : Bd "add_lot" "add_lot" sD1 ["market", "numbers"] := fun _ _ _ _ _ _ us hl => match us, hl with | [_, _], _ => rfl
theorem bd_remove_lot : Bd "remove_lot" "remove_lot" sD2 ["market", "numbers"] := fun _ _ _ _ _ _ us hl => match us, hl with | [_, _], _ => rfl
theorem bd_set_cost : Bd "set_cost" "set_cost" sD3 ["market", "numbers"] := fun _ _ _ _ _ _ us hl => match us, hl with | [_, _], _ => rfl
theorem bd_set_demand : Bd "set_demand" "set_demand" sD4 ["market", "numbers"] := fun _ _ _ _ _ _ us hl => match us, hl with | [_, _], _ => rfl
theorem bd_buy_set : Bd "buy_set" "buy_set" sD5 ["market", "numbers"] := fun _ _ _ _ _ _ us hl => match us, hl with | [_, _], _ => rfl
theorem bd_buy_cheapest : Bd "buy_cheapest" "buy_cheapest" sD6 ["market", "numbers"] := fun _ _ _ _ _ _ us hl => match us, hl with | [_, _], _ => rfl
theorem bd_tell_overlap : Bd "tell_overlap" "tell_overlap" sD7 ["market", "numbers"] := fun _ _ _ _ _ _ us hl => match us, hl with | [_, _], _ => rfl
theorem bd_is_compatible : Bd "is_compatible" "is_compatible" sD8 ["market", "numbers"] := fun _ _ _ _ _ _ us hl => match us, hl with | [_, _], _ => rfl
theorem bd_tell_buyers_needed : Bd "tell_buyers_needed" "tell_buyers_needed" sD9 ["market", "numbers"] := fun _ _ _ _ _ _ us hl => match us, hl with | [_, _], _ => rfl
theorem bd_assign_buyers : Bd "assign_buyers" "assign_buyers" sD10 ["market", "numbers"] := fun _ _ _ _ _ _ us hl => match us, hl with | [_, _], _ => rfl
theorem bd_tell_shortfall : Bd "tell_shortfall" "tell_shortfall" sD11 ["market", "numbers"] := fun _ _ _ _ _ _ us hl => match us, hl with | [_, _], _ => rfl
theorem bd_evaluate : Bd "evaluate" "evaluate" sD12 ["market", "numbers"] := fun _ _ _ _ _ _ us hl => match us, hl with | [_, _], _ => rfl
theorem bd_cheapest_plan : Bd "cheapest_plan" "cheapest_plan" sD13 ["market", "numbers"] := fun _ _ _ _ _ _ us hl => match us, hl with | [_, _], _ => rfl
theorem bd_count_plans : Bd "count_plans" "count_plans" sD14 ["market", "numbers"] := fun _ _ _ _ _ _ us hl => match us, hl with | [_, _], _ => rfl
theorem bd_max_units : Bd "max_units" "max_units" sD15 ["market", "numbers"] := fun _ _ _ _ _ _ us hl => match us, hl with | [_, _], _ => rfl
theorem bd_earliest_plan : Bd "earliest_plan" "earliest_plan" sD16 ["market", "numbers"] := fun _ _ _ _ _ _ us hl => match us, hl with | [_, _], _ => rfl
theorem bd_cheapest_without_lot : Bd "cheapest_without_lot" "cheapest_without_lot" sD17 ["market", "numbers"] := fun _ _ _ _ _ _ us hl => match us, hl with | [_, _], _ => rfl
theorem bd_cheapest_if_demand : Bd "cheapest_if_demand" "cheapest_if_demand" sD18 ["market", "numbers"] := fun _ _ _ _ _ _ us hl => match us, hl with | [_, _], _ => rfl
theorem bd_saving_by_second_buyer : Bd "saving_by_second_buyer" "saving_by_second_buyer" sD19 ["market", "numbers"] := fun _ _ _ _ _ _ us hl => match us, hl with | [_, _], _ => rfl
theorem bd_busiest_moment : Bd "busiest_moment" "busiest_moment" sD20 ["market", "numbers"] := fun _ _ _ _ _ _ us hl => match us, hl with | [_, _], _ => rfl
theorem bd_list_lots : Bd "list_lots" "list_lots" sD21 ["market", "numbers"] := fun _ _ _ _ _ _ us hl => match us, hl with | [_, _], _ => rfl
theorem bd_list_demand : Bd "list_demand" "list_demand" sD22 ["market", "numbers"] := fun _ _ _ _ _ _ us hl => match us, hl with | [_, _], _ => rfl
theorem bd_status : Bd "status" "status" sD23 ["market", "numbers"] := fun _ _ _ _ _ _ us hl => match us, hl with | [_, _], _ => rfl
theorem bd_answer : Bd "answer" "answer" sAnswer ["current", "call", "numbers"] := fun _ _ _ _ _ _ us hl => match us, hl with | [_, _, _], _ => rfl
theorem bd_answers : Bd "answers" "answers" sAns ["calls"] := fun _ _ _ _ _ _ us hl => match us, hl with | [_], _ => rfl
theorem bd_Lot : Bd "__init__" "Lot.__init__" sLot ["self", "kind", "units", "start", "duration", "cost"] := fun _ _ _ _ _ _ us hl => match us, hl with | [_, _, _, _, _, _], _ => rfl
theorem bd_Market : Bd "__init__" "Market.__init__" sMkt ["self"] := fun _ _ _ _ _ _ us hl => match us, hl with | [_], _ => rfl

/-- all that the top leaves: the classes, the constants, the tables, the defs -/
structure Left (K : PySem.W.Frag) (mg : Str → Option Value) (C CM fL fM Dd Nn f_bit_of f_members f_lots_in f_end_of f_overlap f_on_sale f_buyers_needed f_cost_of f_units_of f_units_by_kind f_last_end f_covers f_shortfall f_buy f_masks_of f_plans f_cheapest_of f_cheapest f_earliest f_plans_without f_is_better f_most_units f_first_free f_assignment f_has_lot f_is_set f_are_buyers f_indices f_plan_answer f_add_lot f_remove_lot f_set_cost f_set_demand f_buy_set f_buy_cheapest f_tell_overlap f_is_compatible f_tell_buyers_needed f_assign_buyers f_tell_shortfall f_evaluate f_cheapest_plan f_count_plans f_max_units f_earliest_plan f_cheapest_without_lot f_cheapest_if_demand f_saving_by_second_buyer f_busiest_moment f_list_lots f_list_demand f_status f_answer f_answers : Addr) : Prop where
  T : Txt K mg C CM
  gL : mg "Lot" = some (.ref C)
  gM : mg "Market" = some (.ref CM)
  mL : Mk K C fL
  mM : Mk K CM fM
  gD : mg "DEEDS" = some (.ref Dd)
  gN : mg "NUMBERS" = some (.ref Nn)
  tD : ∀ H, SqT K H Dd (.non :: [f_add_lot, f_remove_lot, f_set_cost, f_set_demand, f_buy_set, f_buy_cheapest, f_tell_overlap, f_is_compatible, f_tell_buyers_needed, f_assign_buyers, f_tell_shortfall, f_evaluate, f_cheapest_plan, f_count_plans, f_max_units, f_earliest_plan, f_cheapest_without_lot, f_cheapest_if_demand, f_saving_by_second_buyer, f_busiest_moment, f_list_lots, f_list_demand, f_status].map V.ref)
  tN : ∀ H, SqT K H Nn (nums.map natV)
  aL : At K mg "__init__" "Lot.__init__" sLot ["self", "kind", "units", "start", "duration", "cost"] fL
  aM : At K mg "__init__" "Market.__init__" sMkt ["self"] fM
  a_bit_of : At K mg "bit_of" "bit_of" sBit ["number"] f_bit_of
  g_bit_of : mg "bit_of" = some (.ref f_bit_of)
  a_members : At K mg "members" "members" sMem ["mask", "many"] f_members
  g_members : mg "members" = some (.ref f_members)
  a_lots_in : At K mg "lots_in" "lots_in" sIn ["market", "mask"] f_lots_in
  g_lots_in : mg "lots_in" = some (.ref f_lots_in)
  a_end_of : At K mg "end_of" "end_of" sEnd ["lot"] f_end_of
  g_end_of : mg "end_of" = some (.ref f_end_of)
  a_overlap : At K mg "overlap" "overlap" sOver ["one", "other"] f_overlap
  g_overlap : mg "overlap" = some (.ref f_overlap)
  a_on_sale : At K mg "on_sale" "on_sale" sOn ["lots", "second"] f_on_sale
  g_on_sale : mg "on_sale" = some (.ref f_on_sale)
  a_buyers_needed : At K mg "buyers_needed" "buyers_needed" sNeed ["lots"] f_buyers_needed
  g_buyers_needed : mg "buyers_needed" = some (.ref f_buyers_needed)
  a_cost_of : At K mg "cost_of" "cost_of" sCost ["lots"] f_cost_of
  g_cost_of : mg "cost_of" = some (.ref f_cost_of)
  a_units_of : At K mg "units_of" "units_of" sUnits ["lots"] f_units_of
  g_units_of : mg "units_of" = some (.ref f_units_of)
  a_units_by_kind : At K mg "units_by_kind" "units_by_kind" sBy ["lots"] f_units_by_kind
  g_units_by_kind : mg "units_by_kind" = some (.ref f_units_by_kind)
  a_last_end : At K mg "last_end" "last_end" sLast ["lots"] f_last_end
  g_last_end : mg "last_end" = some (.ref f_last_end)
  a_covers : At K mg "covers" "covers" sCov ["lots", "demand"] f_covers
  g_covers : mg "covers" = some (.ref f_covers)
  a_shortfall : At K mg "shortfall" "shortfall" sShort ["lots", "demand"] f_shortfall
  g_shortfall : mg "shortfall" = some (.ref f_shortfall)
  a_buy : At K mg "buy" "buy" sBuy ["market", "mask"] f_buy
  g_buy : mg "buy" = some (.ref f_buy)
  a_masks_of : At K mg "masks_of" "masks_of" sMasks ["market"] f_masks_of
  g_masks_of : mg "masks_of" = some (.ref f_masks_of)
  a_plans : At K mg "plans" "plans" sPlans ["market", "buyers", "demand"] f_plans
  g_plans : mg "plans" = some (.ref f_plans)
  a_cheapest_of : At K mg "cheapest_of" "cheapest_of" sCheapOf ["market", "masks"] f_cheapest_of
  g_cheapest_of : mg "cheapest_of" = some (.ref f_cheapest_of)
  a_cheapest : At K mg "cheapest" "cheapest" sCheap ["market", "buyers"] f_cheapest
  g_cheapest : mg "cheapest" = some (.ref f_cheapest)
  a_earliest : At K mg "earliest" "earliest" sEarl ["market", "buyers"] f_earliest
  g_earliest : mg "earliest" = some (.ref f_earliest)
  a_plans_without : At K mg "plans_without" "plans_without" sWithout ["market", "buyers", "number"] f_plans_without
  g_plans_without : mg "plans_without" = some (.ref f_plans_without)
  a_is_better : At K mg "is_better" "is_better" sBetter ["one", "other"] f_is_better
  g_is_better : mg "is_better" = some (.ref f_is_better)
  a_most_units : At K mg "most_units" "most_units" sMost ["market", "buyers", "budget"] f_most_units
  g_most_units : mg "most_units" = some (.ref f_most_units)
  a_first_free : At K mg "first_free" "first_free" sFree ["ends", "start"] f_first_free
  g_first_free : mg "first_free" = some (.ref f_first_free)
  a_assignment : At K mg "assignment" "assignment" sAsg ["market", "mask"] f_assignment
  g_assignment : mg "assignment" = some (.ref f_assignment)
  a_has_lot : At K mg "has_lot" "has_lot" sHas ["market", "number"] f_has_lot
  g_has_lot : mg "has_lot" = some (.ref f_has_lot)
  a_is_set : At K mg "is_set" "is_set" sIsSet ["market", "mask"] f_is_set
  g_is_set : mg "is_set" = some (.ref f_is_set)
  a_are_buyers : At K mg "are_buyers" "are_buyers" sAre ["number"] f_are_buyers
  g_are_buyers : mg "are_buyers" = some (.ref f_are_buyers)
  a_indices : At K mg "indices" "indices" sIdx ["market", "mask"] f_indices
  g_indices : mg "indices" = some (.ref f_indices)
  a_plan_answer : At K mg "plan_answer" "plan_answer" sPlanAns ["market", "mask"] f_plan_answer
  g_plan_answer : mg "plan_answer" = some (.ref f_plan_answer)
  a_add_lot : At K mg "add_lot" "add_lot" sD1 ["market", "numbers"] f_add_lot
  a_remove_lot : At K mg "remove_lot" "remove_lot" sD2 ["market", "numbers"] f_remove_lot
  a_set_cost : At K mg "set_cost" "set_cost" sD3 ["market", "numbers"] f_set_cost
  a_set_demand : At K mg "set_demand" "set_demand" sD4 ["market", "numbers"] f_set_demand
  a_buy_set : At K mg "buy_set" "buy_set" sD5 ["market", "numbers"] f_buy_set
  a_buy_cheapest : At K mg "buy_cheapest" "buy_cheapest" sD6 ["market", "numbers"] f_buy_cheapest
  a_tell_overlap : At K mg "tell_overlap" "tell_overlap" sD7 ["market", "numbers"] f_tell_overlap
  a_is_compatible : At K mg "is_compatible" "is_compatible" sD8 ["market", "numbers"] f_is_compatible
  a_tell_buyers_needed : At K mg "tell_buyers_needed" "tell_buyers_needed" sD9 ["market", "numbers"] f_tell_buyers_needed
  a_assign_buyers : At K mg "assign_buyers" "assign_buyers" sD10 ["market", "numbers"] f_assign_buyers
  a_tell_shortfall : At K mg "tell_shortfall" "tell_shortfall" sD11 ["market", "numbers"] f_tell_shortfall
  a_evaluate : At K mg "evaluate" "evaluate" sD12 ["market", "numbers"] f_evaluate
  a_cheapest_plan : At K mg "cheapest_plan" "cheapest_plan" sD13 ["market", "numbers"] f_cheapest_plan
  a_count_plans : At K mg "count_plans" "count_plans" sD14 ["market", "numbers"] f_count_plans
  a_max_units : At K mg "max_units" "max_units" sD15 ["market", "numbers"] f_max_units
  a_earliest_plan : At K mg "earliest_plan" "earliest_plan" sD16 ["market", "numbers"] f_earliest_plan
  a_cheapest_without_lot : At K mg "cheapest_without_lot" "cheapest_without_lot" sD17 ["market", "numbers"] f_cheapest_without_lot
  a_cheapest_if_demand : At K mg "cheapest_if_demand" "cheapest_if_demand" sD18 ["market", "numbers"] f_cheapest_if_demand
  a_saving_by_second_buyer : At K mg "saving_by_second_buyer" "saving_by_second_buyer" sD19 ["market", "numbers"] f_saving_by_second_buyer
  a_busiest_moment : At K mg "busiest_moment" "busiest_moment" sD20 ["market", "numbers"] f_busiest_moment
  a_list_lots : At K mg "list_lots" "list_lots" sD21 ["market", "numbers"] f_list_lots
  a_list_demand : At K mg "list_demand" "list_demand" sD22 ["market", "numbers"] f_list_demand
  a_status : At K mg "status" "status" sD23 ["market", "numbers"] f_status
  a_answer : At K mg "answer" "answer" sAnswer ["current", "call", "numbers"] f_answer
  g_answer : mg "answer" = some (.ref f_answer)
  a_answers : At K mg "answers" "answers" sAns ["calls"] f_answers
  g_answers : mg "answers" = some (.ref f_answers)
section
variable {P : Program} {w : World} {K : PySem.W.Frag} {mg : Str → Option Value} {base : Heap} {C CM fL fM Dd Nn f_bit_of f_members f_lots_in f_end_of f_overlap f_on_sale f_buyers_needed f_cost_of f_units_of f_units_by_kind f_last_end f_covers f_shortfall f_buy f_masks_of f_plans f_cheapest_of f_cheapest f_earliest f_plans_without f_is_better f_most_units f_first_free f_assignment f_has_lot f_is_set f_are_buyers f_indices f_plan_answer f_add_lot f_remove_lot f_set_cost f_set_demand f_buy_set f_buy_cheapest f_tell_overlap f_is_compatible f_tell_buyers_needed f_assign_buyers f_tell_shortfall f_evaluate f_cheapest_plan f_count_plans f_max_units f_earliest_plan f_cheapest_without_lot f_cheapest_if_demand f_saving_by_second_buyer f_busiest_moment f_list_lots f_list_demand f_status f_answer f_answers : Addr}
theorem Left.ok (W : Left K mg C CM fL fM Dd Nn f_bit_of f_members f_lots_in f_end_of f_overlap f_on_sale f_buyers_needed f_cost_of f_units_of f_units_by_kind f_last_end f_covers f_shortfall f_buy f_masks_of f_plans f_cheapest_of f_cheapest f_earliest f_plans_without f_is_better f_most_units f_first_free f_assignment f_has_lot f_is_set f_are_buyers f_indices f_plan_answer f_add_lot f_remove_lot f_set_cost f_set_demand f_buy_set f_buy_cheapest f_tell_overlap f_is_compatible f_tell_buyers_needed f_assign_buyers f_tell_shortfall f_evaluate f_cheapest_plan f_count_plans f_max_units f_earliest_plan f_cheapest_without_lot f_cheapest_if_demand f_saving_by_second_buyer f_busiest_moment f_list_lots f_list_demand f_status f_answer f_answers) : ∀ fd, Fun K "answers" "answers" sAns f_answers fd → FnOk P w K mg base CX0 8 f_answers fd ["calls"] (spAns K) := by
  have T := W.T
  have D_Lot : ClsDef P w K mg base "Lot" C 1 ["self", "kind", "units", "start", "duration", "cost"] (spLot C) := W.aL.cls W.gL W.mL fun _ F => ok_lot F T
  have D_Market : ClsDef P w K mg base "Market" CM 1 ["self"] (spMk C CM) := W.aM.cls W.gM W.mM fun _ F => ok_mkt F T
  have D_bit_of : Def P w K mg base "bit_of" 1 ["number"] spBit := W.a_bit_of.def W.g_bit_of fun _ F => ok_bit F T
  have D_members : Def P w K mg base "members" 1 ["mask", "many"] spMem := W.a_members.def W.g_members fun _ F => ok_mem F T
  have D_end_of : Def P w K mg base "end_of" 1 ["lot"] (spEnd C) := W.a_end_of.def W.g_end_of fun _ F => ok_end F T
  have D_cost_of : Def P w K mg base "cost_of" 1 ["lots"] (spL1 K C costOf) := W.a_cost_of.def W.g_cost_of fun _ F => ok_cost F T
  have D_units_of : Def P w K mg base "units_of" 1 ["lots"] (spL1 K C unitsOf) := W.a_units_of.def W.g_units_of fun _ F => ok_units F T
  have D_lots_in : Def P w K mg base "lots_in" 2 ["market", "mask"] (spIn C CM) := W.a_lots_in.def W.g_lots_in fun _ F => ok_in F T D_members
  have D_overlap : Def P w K mg base "overlap" 2 ["one", "other"] (spOver C) := W.a_overlap.def W.g_overlap fun _ F => ok_over F T D_end_of
  have D_on_sale : Def P w K mg base "on_sale" 2 ["lots", "second"] (spOn K C) := W.a_on_sale.def W.g_on_sale fun _ F => ok_on F T D_end_of
  have D_buyers_needed : Def P w K mg base "buyers_needed" 3 ["lots"] (spL1 K C need) := W.a_buyers_needed.def W.g_buyers_needed fun _ F => ok_need F T D_on_sale
  have D_units_by_kind : Def P w K mg base "units_by_kind" 2 ["lots"] (spBy K C) := W.a_units_by_kind.def W.g_units_by_kind fun _ F => ok_by F T D_units_of
  have D_last_end : Def P w K mg base "last_end" 2 ["lots"] (spL1 K C lastEnd) := W.a_last_end.def W.g_last_end fun _ F => ok_last F T D_end_of
  have D_covers : Def P w K mg base "covers" 3 ["lots", "demand"] (spCov K C) := W.a_covers.def W.g_covers fun _ F => ok_cov F T D_units_by_kind
  have D_shortfall : Def P w K mg base "shortfall" 3 ["lots", "demand"] (spShort K C) := W.a_shortfall.def W.g_shortfall fun _ F => ok_short F T D_units_by_kind
  have D_buy : Def P w K mg base "buy" 4 ["market", "mask"] (spBuy C CM) := W.a_buy.def W.g_buy fun _ F => ok_buy F T D_lots_in D_shortfall D_units_by_kind D_cost_of D_members
  have D_masks_of : Def P w K mg base "masks_of" 2 ["market"] (spMasks C CM) := W.a_masks_of.def W.g_masks_of fun _ F => ok_masks F T D_bit_of
  have D_plans : Def P w K mg base "plans" 4 ["market", "buyers", "demand"] (spPlans K C CM) := W.a_plans.def W.g_plans fun _ F => ok_plans F T D_masks_of D_lots_in D_covers D_buyers_needed
  have D_cheapest_of : Def P w K mg base "cheapest_of" 3 ["market", "masks"] (spCheapOf K C CM) := W.a_cheapest_of.def W.g_cheapest_of fun _ F => ok_cheapOf F T D_lots_in D_cost_of
  have D_cheapest : Def P w K mg base "cheapest" 5 ["market", "buyers"] (spCheap C CM) := W.a_cheapest.def W.g_cheapest fun _ F => ok_cheap F T D_cheapest_of D_plans
  have D_earliest : Def P w K mg base "earliest" 5 ["market", "buyers"] (spEarl C CM) := W.a_earliest.def W.g_earliest fun _ F => ok_earl F T D_plans D_lots_in D_last_end
  have D_plans_without : Def P w K mg base "plans_without" 5 ["market", "buyers", "number"] (spWithout C CM) := W.a_plans_without.def W.g_plans_without fun _ F => ok_without F T D_plans D_members
  have D_is_better : Def P w K mg base "is_better" 2 ["one", "other"] (spBetter K C) := W.a_is_better.def W.g_is_better fun _ F => ok_better F D_units_of D_cost_of
  have D_most_units : Def P w K mg base "most_units" 4 ["market", "buyers", "budget"] (spMost C CM) := W.a_most_units.def W.g_most_units fun _ F => ok_most F D_masks_of D_lots_in D_cost_of D_buyers_needed D_is_better
  have D_first_free : Def P w K mg base "first_free" 1 ["ends", "start"] (spFree K) := W.a_first_free.def W.g_first_free fun _ F => ok_free F T
  have D_assignment : Def P w K mg base "assignment" 2 ["market", "mask"] (spAsg C CM) := W.a_assignment.def W.g_assignment fun _ F => ok_asg F T D_members D_first_free D_end_of D_bit_of
  have D_has_lot : Def P w K mg base "has_lot" 1 ["market", "number"] (spHas C CM) := W.a_has_lot.def W.g_has_lot fun _ F => ok_has F T
  have D_is_set : Def P w K mg base "is_set" 2 ["market", "mask"] (spIsSet C CM) := W.a_is_set.def W.g_is_set fun _ F => ok_isSet F T D_bit_of
  have D_are_buyers : Def P w K mg base "are_buyers" 1 ["number"] spAre := W.a_are_buyers.def W.g_are_buyers fun _ F => ok_are F T
  have D_indices : Def P w K mg base "indices" 2 ["market", "mask"] (spIdx C CM) := W.a_indices.def W.g_indices fun _ F => ok_idx F T D_members
  have D_plan_answer : Def P w K mg base "plan_answer" 3 ["market", "mask"] (spPlanAns C CM) := W.a_plan_answer.def W.g_plan_answer fun _ F => ok_planAns F D_cost_of D_lots_in D_indices
  have DO : DeedsOk P w K mg base C CM := by
    refine ⟨Dd, _, W.gD, W.tD, fun c h1 h2 => ?_⟩
    match c, h1, h2 with
    | 1, _, _ => exact ⟨f_add_lot, rfl, W.a_add_lot.held (j := 3) (by decide) fun _ F => ok_d1 F T D_Lot⟩
    | 2, _, _ => exact ⟨f_remove_lot, rfl, W.a_remove_lot.held (j := 2) (by decide) fun _ F => ok_d2 F T D_has_lot⟩
    | 3, _, _ => exact ⟨f_set_cost, rfl, W.a_set_cost.held (j := 2) (by decide) fun _ F => ok_d3 F T D_has_lot⟩
    | 4, _, _ => exact ⟨f_set_demand, rfl, W.a_set_demand.held (j := 1) (by decide) fun _ F => ok_d4 F T⟩
    | 5, _, _ => exact ⟨f_buy_set, rfl, W.a_buy_set.held (j := 5) (by decide) fun _ F => ok_d5 F D_is_set D_buyers_needed D_lots_in D_buy⟩
    | 6, _, _ => exact ⟨f_buy_cheapest, rfl, W.a_buy_cheapest.held (j := 6) (by decide) fun _ F => ok_d6 F D_are_buyers D_cheapest D_plan_answer D_buy⟩
    | 7, _, _ => exact ⟨f_tell_overlap, rfl, W.a_tell_overlap.held (j := 3) (by decide) fun _ F => ok_d7 F T D_has_lot D_overlap⟩
    | 8, _, _ => exact ⟨f_is_compatible, rfl, W.a_is_compatible.held (j := 4) (by decide) fun _ F => ok_d8 F D_is_set D_buyers_needed D_lots_in⟩
    | 9, _, _ => exact ⟨f_tell_buyers_needed, rfl, W.a_tell_buyers_needed.held (j := 4) (by decide) fun _ F => ok_d9 F D_is_set D_buyers_needed D_lots_in⟩
    | 10, _, _ => exact ⟨f_assign_buyers, rfl, W.a_assign_buyers.held (j := 3) (by decide) fun _ F => ok_d10 F T D_is_set D_assignment⟩
    | 11, _, _ => exact ⟨f_tell_shortfall, rfl, W.a_tell_shortfall.held (j := 4) (by decide) fun _ F => ok_d11 F T D_is_set D_shortfall D_lots_in⟩
    | 12, _, _ => exact ⟨f_evaluate, rfl, W.a_evaluate.held (j := 3) (by decide) fun _ F => ok_d12 F D_is_set D_lots_in D_cost_of D_units_of D_last_end⟩
    | 13, _, _ => exact ⟨f_cheapest_plan, rfl, W.a_cheapest_plan.held (j := 6) (by decide) fun _ F => ok_d13 F D_are_buyers D_cheapest D_plan_answer⟩
    | 14, _, _ => exact ⟨f_count_plans, rfl, W.a_count_plans.held (j := 5) (by decide) fun _ F => ok_d14 F T D_are_buyers D_plans⟩
    | 15, _, _ => exact ⟨f_max_units, rfl, W.a_max_units.held (j := 5) (by decide) fun _ F => ok_d15 F D_are_buyers D_most_units D_lots_in D_units_of D_cost_of D_indices⟩
    | 16, _, _ => exact ⟨f_earliest_plan, rfl, W.a_earliest_plan.held (j := 6) (by decide) fun _ F => ok_d16 F D_are_buyers D_earliest D_lots_in D_last_end D_indices⟩
    | 17, _, _ => exact ⟨f_cheapest_without_lot, rfl, W.a_cheapest_without_lot.held (j := 6) (by decide) fun _ F => ok_d17 F D_has_lot D_are_buyers D_plan_answer D_cheapest_of D_plans_without⟩
    | 18, _, _ => exact ⟨f_cheapest_if_demand, rfl, W.a_cheapest_if_demand.held (j := 5) (by decide) fun _ F => ok_d18 F T D_are_buyers D_plan_answer D_cheapest_of D_plans⟩
    | 19, _, _ => exact ⟨f_saving_by_second_buyer, rfl, W.a_saving_by_second_buyer.held (j := 6) (by decide) fun _ F => ok_d19 F D_cheapest D_cost_of D_lots_in⟩
    | 20, _, _ => exact ⟨f_busiest_moment, rfl, W.a_busiest_moment.held (j := 4) (by decide) fun _ F => ok_d20 F T D_buyers_needed D_on_sale⟩
    | 21, _, _ => exact ⟨f_list_lots, rfl, W.a_list_lots.held (j := 1) (by decide) fun _ F => ok_d21 F T⟩
    | 22, _, _ => exact ⟨f_list_demand, rfl, W.a_list_demand.held (j := 1) (by decide) fun _ F => ok_d22 F T⟩
    | 23, _, _ => exact ⟨f_status, rfl, W.a_status.held (j := 1) (by decide) fun _ F => ok_d23 F T⟩
    | 0, h, _ => exact absurd h (by decide)
    | _ + 24, _, h => exact absurd h (by omega)
  have D_answer : Def P w K mg base "answer" 7 ["current", "call", "numbers"] (spAnswer K C CM) := W.a_answer.def W.g_answer fun _ F => ok_answer F DO
  exact fun _ F => ok_ans F T ⟨Nn, W.gN, W.tN⟩ D_answer D_Market
theorem Left.all (W : Left K mg C CM fL fM Dd Nn f_bit_of f_members f_lots_in f_end_of f_overlap f_on_sale f_buyers_needed f_cost_of f_units_of f_units_by_kind f_last_end f_covers f_shortfall f_buy f_masks_of f_plans f_cheapest_of f_cheapest f_earliest f_plans_without f_is_better f_most_units f_first_free f_assignment f_has_lot f_is_set f_are_buyers f_indices f_plan_answer f_add_lot f_remove_lot f_set_cost f_set_demand f_buy_set f_buy_cheapest f_tell_overlap f_is_compatible f_tell_buyers_needed f_assign_buyers f_tell_shortfall f_evaluate f_cheapest_plan f_count_plans f_max_units f_earliest_plan f_cheapest_without_lot f_cheapest_if_demand f_saving_by_second_buyer f_busiest_moment f_list_lots f_list_demand f_status f_answer f_answers) {fa : Addr} (hfa : mg "answers" = some (.ref fa)) :
    ∃ fd : FuncData, (∀ (s : Shared) (us : List Value), us.length = (["calls"] : List Str).length → BindsTo s fd ⟨us, []⟩ ((["calls"] : List Str).zip us)) ∧ ∀ base : Heap, K.In base → base.Ns mainGlobals mg → FnOk P w K mg base CX0 8 fa fd ["calls"] (spAns K) := by
  have e := hfa.symm.trans W.g_answers
  cases e
  obtain ⟨fd, F, b⟩ := W.a_answers.ex
  exact ⟨fd, fun s us hl => .of_eq (b us hl), fun base _ _ => W.ok fd F⟩
end
end Lc
/-! part LcMain -/
open PySem PySem.W PyProof.Rows
set_option maxRecDepth 100000 in
set_option maxHeartbeats 16000000 in
theorem PySem.Challenge.cw_lotsonclocks_s01_answers_holds : PySem.Challenge.rw_lotsonclocks_s01_answers.Holds := by
  w_on; k_headS; (case hw => exact ⟨[.list [.int 0]], by decide +kernel, by decide +kernel⟩)
  k_fillS
  refine L2.walk_specK (r := PySem.Challenge.rw_lotsonclocks_s01_answers) (k := 8) (CX := L2.CX0) (ps := ["calls"]) (sp := Lc.spAns) (by decide +kernel) rfl rfl ⟨rfl, by decide, by decide⟩ (fun w h Y => PySem.W.kIn_of Y) ?F ?S (fun _ _ _ _ z => z)
  case F =>
    intro w mg fa h Y KX G hmg
    refine' Lc.Left.all (C := ?C) (CM := ?CM) (fL := ?fL) (fM := ?fM) (Dd := ?Dd) (Nn := ?Nn) (f_bit_of := ?f_bit_of) (f_members := ?f_members) (f_lots_in := ?f_lots_in) (f_end_of := ?f_end_of) (f_overlap := ?f_overlap) (f_on_sale := ?f_on_sale) (f_buyers_needed := ?f_buyers_needed) (f_cost_of := ?f_cost_of) (f_units_of := ?f_units_of) (f_units_by_kind := ?f_units_by_kind) (f_last_end := ?f_last_end) (f_covers := ?f_covers) (f_shortfall := ?f_shortfall) (f_buy := ?f_buy) (f_masks_of := ?f_masks_of) (f_plans := ?f_plans) (f_cheapest_of := ?f_cheapest_of) (f_cheapest := ?f_cheapest) (f_earliest := ?f_earliest) (f_plans_without := ?f_plans_without) (f_is_better := ?f_is_better) (f_most_units := ?f_most_units) (f_first_free := ?f_first_free) (f_assignment := ?f_assignment) (f_has_lot := ?f_has_lot) (f_is_set := ?f_is_set) (f_are_buyers := ?f_are_buyers) (f_indices := ?f_indices) (f_plan_answer := ?f_plan_answer) (f_add_lot := ?f_add_lot) (f_remove_lot := ?f_remove_lot) (f_set_cost := ?f_set_cost) (f_set_demand := ?f_set_demand) (f_buy_set := ?f_buy_set) (f_buy_cheapest := ?f_buy_cheapest) (f_tell_overlap := ?f_tell_overlap) (f_is_compatible := ?f_is_compatible) (f_tell_buyers_needed := ?f_tell_buyers_needed) (f_assign_buyers := ?f_assign_buyers) (f_tell_shortfall := ?f_tell_shortfall) (f_evaluate := ?f_evaluate) (f_cheapest_plan := ?f_cheapest_plan) (f_count_plans := ?f_count_plans) (f_max_units := ?f_max_units) (f_earliest_plan := ?f_earliest_plan) (f_cheapest_without_lot := ?f_cheapest_without_lot) (f_cheapest_if_demand := ?f_cheapest_if_demand) (f_saving_by_second_buyer := ?f_saving_by_second_buyer) (f_busiest_moment := ?f_busiest_moment) (f_list_lots := ?f_list_lots) (f_list_demand := ?f_list_demand) (f_status := ?f_status) (f_answer := ?f_answer) (f_answers := ?f_answers) ?W hmg
    case W =>
      refine' ⟨⟨⟨?c1, ?c2, ?c3, ?c4⟩, ⟨?d1, ?d2, ?d3, ?d4⟩, ?n1, ?n2, ?n3, ?n4, ?n5, ?m1, ?m2, ?m3, ?m4, ?b1, ?b2, ?b3, ?b4, ?b5, ?b6, ?b7, ?b8, ?b9, Lc.int_of ?k1, Lc.int_of ?k2, Lc.int_of ?k3, Lc.int_of ?k4⟩, ?gL, ?gM, ⟨?i1, ?i2, ?i3, ?i4⟩, ⟨?j1, ?j2, ?j3, ?j4⟩, ?gD, ?gN, ?tD, ?tN, ?aL, ?aM, ?a_bit_of, ?g_bit_of, ?a_members, ?g_members, ?a_lots_in, ?g_lots_in, ?a_end_of, ?g_end_of, ?a_overlap, ?g_overlap, ?a_on_sale, ?g_on_sale, ?a_buyers_needed, ?g_buyers_needed, ?a_cost_of, ?g_cost_of, ?a_units_of, ?g_units_of, ?a_units_by_kind, ?g_units_by_kind, ?a_last_end, ?g_last_end, ?a_covers, ?g_covers, ?a_shortfall, ?g_shortfall, ?a_buy, ?g_buy, ?a_masks_of, ?g_masks_of, ?a_plans, ?g_plans, ?a_cheapest_of, ?g_cheapest_of, ?a_cheapest, ?g_cheapest, ?a_earliest, ?g_earliest, ?a_plans_without, ?g_plans_without, ?a_is_better, ?g_is_better, ?a_most_units, ?g_most_units, ?a_first_free, ?g_first_free, ?a_assignment, ?g_assignment, ?a_has_lot, ?g_has_lot, ?a_is_set, ?g_is_set, ?a_are_buyers, ?g_are_buyers, ?a_indices, ?g_indices, ?a_plan_answer, ?g_plan_answer, ?a_add_lot, ?a_remove_lot, ?a_set_cost, ?a_set_demand, ?a_buy_set, ?a_buy_cheapest, ?a_tell_overlap, ?a_is_compatible, ?a_tell_buyers_needed, ?a_assign_buyers, ?a_tell_shortfall, ?a_evaluate, ?a_cheapest_plan, ?a_count_plans, ?a_max_units, ?a_earliest_plan, ?a_cheapest_without_lot, ?a_cheapest_if_demand, ?a_saving_by_second_buyer, ?a_busiest_moment, ?a_list_lots, ?a_list_demand, ?a_status, ?a_answer, ?g_answer, ?a_answers, ?g_answers⟩
      (case gL => refine PySem.W.mg_of KX G ?_; k_is)
      (case gM => refine PySem.W.mg_of KX G ?_; k_is)
      (case gD => refine PySem.W.mg_of KX G ?_; k_is)
      (case gN => refine PySem.W.mg_of KX G ?_; k_is)
      (case c1 => k_is)
      (case c2 => k_is)
      (case c3 => k_is)
      (case c4 => k_is)
      (case d1 => k_is)
      (case d2 => k_is)
      (case d3 => k_is)
      (case d4 => k_is)
      (case n1 => unfold L2.NoAttr; k_is)
      (case n2 => unfold L2.NoAttr; k_is)
      (case n3 => unfold L2.NoAttr; k_is)
      (case n4 => unfold L2.NoAttr; k_is)
      (case n5 => unfold L2.NoAttr; k_is)
      (case m1 => unfold L2.NoAttr; k_is)
      (case m2 => unfold L2.NoAttr; k_is)
      (case m3 => unfold L2.NoAttr; k_is)
      (case m4 => unfold L2.NoAttr; k_is)
      (case b1 => exact PySem.W.mg_none_of KX G (by k_is))
      (case b2 => exact PySem.W.mg_none_of KX G (by k_is))
      (case b3 => exact PySem.W.mg_none_of KX G (by k_is))
      (case b4 => exact PySem.W.mg_none_of KX G (by k_is))
      (case b5 => exact PySem.W.mg_none_of KX G (by k_is))
      (case b6 => exact PySem.W.mg_none_of KX G (by k_is))
      (case b7 => exact PySem.W.mg_none_of KX G (by k_is))
      (case b8 => exact PySem.W.mg_none_of KX G (by k_is))
      (case b9 => exact PySem.W.mg_none_of KX G (by k_is))
      (case k1 => refine PySem.W.mg_of KX G ?_; k_is)
      (case k2 => refine PySem.W.mg_of KX G ?_; k_is)
      (case k3 => refine PySem.W.mg_of KX G ?_; k_is)
      (case k4 => refine PySem.W.mg_of KX G ?_; k_is)
      (case i2 => k_is)
      (case i1 => k_is)
      (case i3 => k_is)
      (case i4 => k_is)
      (case j2 => k_is)
      (case j1 => k_is)
      (case j3 => k_is)
      (case j4 => k_is)
      (case g_bit_of => refine PySem.W.mg_of KX G ?_; k_is)
      (case g_members => refine PySem.W.mg_of KX G ?_; k_is)
      (case g_lots_in => refine PySem.W.mg_of KX G ?_; k_is)
      (case g_end_of => refine PySem.W.mg_of KX G ?_; k_is)
      (case g_overlap => refine PySem.W.mg_of KX G ?_; k_is)
      (case g_on_sale => refine PySem.W.mg_of KX G ?_; k_is)
      (case g_buyers_needed => refine PySem.W.mg_of KX G ?_; k_is)
      (case g_cost_of => refine PySem.W.mg_of KX G ?_; k_is)
      (case g_units_of => refine PySem.W.mg_of KX G ?_; k_is)
      (case g_units_by_kind => refine PySem.W.mg_of KX G ?_; k_is)
      (case g_last_end => refine PySem.W.mg_of KX G ?_; k_is)
      (case g_covers => refine PySem.W.mg_of KX G ?_; k_is)
      (case g_shortfall => refine PySem.W.mg_of KX G ?_; k_is)
      (case g_buy => refine PySem.W.mg_of KX G ?_; k_is)
      (case g_masks_of => refine PySem.W.mg_of KX G ?_; k_is)
      (case g_plans => refine PySem.W.mg_of KX G ?_; k_is)
      (case g_cheapest_of => refine PySem.W.mg_of KX G ?_; k_is)
      (case g_cheapest => refine PySem.W.mg_of KX G ?_; k_is)
      (case g_earliest => refine PySem.W.mg_of KX G ?_; k_is)
      (case g_plans_without => refine PySem.W.mg_of KX G ?_; k_is)
      (case g_is_better => refine PySem.W.mg_of KX G ?_; k_is)
      (case g_most_units => refine PySem.W.mg_of KX G ?_; k_is)
      (case g_first_free => refine PySem.W.mg_of KX G ?_; k_is)
      (case g_assignment => refine PySem.W.mg_of KX G ?_; k_is)
      (case g_has_lot => refine PySem.W.mg_of KX G ?_; k_is)
      (case g_is_set => refine PySem.W.mg_of KX G ?_; k_is)
      (case g_are_buyers => refine PySem.W.mg_of KX G ?_; k_is)
      (case g_indices => refine PySem.W.mg_of KX G ?_; k_is)
      (case g_plan_answer => refine PySem.W.mg_of KX G ?_; k_is)
      (case g_answer => refine PySem.W.mg_of KX G ?_; k_is)
      (case g_answers => refine PySem.W.mg_of KX G ?_; k_is)
      (case tD => refine' Lc.tup_of ?l ?e ?z; (case l => k_is); (case e => rfl); (case z => decide))
      (case tN => refine' Lc.tup_of ?l ?e ?z; (case l => k_is); (case e => rfl); (case z => decide))
      (case aL => refine' Lc.at_mk Lc.bd_Lot ?l ?c ?k; (case l => k_is); (case c => k_is); (case k => k_is))
      (case aM => refine' Lc.at_mk Lc.bd_Market ?l ?c ?k; (case l => k_is); (case c => k_is); (case k => k_is))
      (case a_bit_of => refine' Lc.at_mk Lc.bd_bit_of ?l ?c ?k; (case l => k_is); (case c => k_is); (case k => k_is))
      (case a_members => refine' Lc.at_mk Lc.bd_members ?l ?c ?k; (case l => k_is); (case c => k_is); (case k => k_is))
      (case a_lots_in => refine' Lc.at_mk Lc.bd_lots_in ?l ?c ?k; (case l => k_is); (case c => k_is); (case k => k_is))
      (case a_end_of => refine' Lc.at_mk Lc.bd_end_of ?l ?c ?k; (case l => k_is); (case c => k_is); (case k => k_is))
      (case a_overlap => refine' Lc.at_mk Lc.bd_overlap ?l ?c ?k; (case l => k_is); (case c => k_is); (case k => k_is))
      (case a_on_sale => refine' Lc.at_mk Lc.bd_on_sale ?l ?c ?k; (case l => k_is); (case c => k_is); (case k => k_is))
      (case a_buyers_needed => refine' Lc.at_mk Lc.bd_buyers_needed ?l ?c ?k; (case l => k_is); (case c => k_is); (case k => k_is))
      (case a_cost_of => refine' Lc.at_mk Lc.bd_cost_of ?l ?c ?k; (case l => k_is); (case c => k_is); (case k => k_is))
      (case a_units_of => refine' Lc.at_mk Lc.bd_units_of ?l ?c ?k; (case l => k_is); (case c => k_is); (case k => k_is))
      (case a_units_by_kind => refine' Lc.at_mk Lc.bd_units_by_kind ?l ?c ?k; (case l => k_is); (case c => k_is); (case k => k_is))
      (case a_last_end => refine' Lc.at_mk Lc.bd_last_end ?l ?c ?k; (case l => k_is); (case c => k_is); (case k => k_is))
      (case a_covers => refine' Lc.at_mk Lc.bd_covers ?l ?c ?k; (case l => k_is); (case c => k_is); (case k => k_is))
      (case a_shortfall => refine' Lc.at_mk Lc.bd_shortfall ?l ?c ?k; (case l => k_is); (case c => k_is); (case k => k_is))
      (case a_buy => refine' Lc.at_mk Lc.bd_buy ?l ?c ?k; (case l => k_is); (case c => k_is); (case k => k_is))
      (case a_masks_of => refine' Lc.at_mk Lc.bd_masks_of ?l ?c ?k; (case l => k_is); (case c => k_is); (case k => k_is))
      (case a_plans => refine' Lc.at_mk Lc.bd_plans ?l ?c ?k; (case l => k_is); (case c => k_is); (case k => k_is))
      (case a_cheapest_of => refine' Lc.at_mk Lc.bd_cheapest_of ?l ?c ?k; (case l => k_is); (case c => k_is); (case k => k_is))
      (case a_cheapest => refine' Lc.at_mk Lc.bd_cheapest ?l ?c ?k; (case l => k_is); (case c => k_is); (case k => k_is))
      (case a_earliest => refine' Lc.at_mk Lc.bd_earliest ?l ?c ?k; (case l => k_is); (case c => k_is); (case k => k_is))
      (case a_plans_without => refine' Lc.at_mk Lc.bd_plans_without ?l ?c ?k; (case l => k_is); (case c => k_is); (case k => k_is))
      (case a_is_better => refine' Lc.at_mk Lc.bd_is_better ?l ?c ?k; (case l => k_is); (case c => k_is); (case k => k_is))
      (case a_most_units => refine' Lc.at_mk Lc.bd_most_units ?l ?c ?k; (case l => k_is); (case c => k_is); (case k => k_is))
      (case a_first_free => refine' Lc.at_mk Lc.bd_first_free ?l ?c ?k; (case l => k_is); (case c => k_is); (case k => k_is))
      (case a_assignment => refine' Lc.at_mk Lc.bd_assignment ?l ?c ?k; (case l => k_is); (case c => k_is); (case k => k_is))
      (case a_has_lot => refine' Lc.at_mk Lc.bd_has_lot ?l ?c ?k; (case l => k_is); (case c => k_is); (case k => k_is))
      (case a_is_set => refine' Lc.at_mk Lc.bd_is_set ?l ?c ?k; (case l => k_is); (case c => k_is); (case k => k_is))
      (case a_are_buyers => refine' Lc.at_mk Lc.bd_are_buyers ?l ?c ?k; (case l => k_is); (case c => k_is); (case k => k_is))
      (case a_indices => refine' Lc.at_mk Lc.bd_indices ?l ?c ?k; (case l => k_is); (case c => k_is); (case k => k_is))
      (case a_plan_answer => refine' Lc.at_mk Lc.bd_plan_answer ?l ?c ?k; (case l => k_is); (case c => k_is); (case k => k_is))
      (case a_add_lot => refine' Lc.at_mk Lc.bd_add_lot ?l ?c ?k; (case l => k_is); (case c => k_is); (case k => k_is))
      (case a_remove_lot => refine' Lc.at_mk Lc.bd_remove_lot ?l ?c ?k; (case l => k_is); (case c => k_is); (case k => k_is))
      (case a_set_cost => refine' Lc.at_mk Lc.bd_set_cost ?l ?c ?k; (case l => k_is); (case c => k_is); (case k => k_is))
      (case a_set_demand => refine' Lc.at_mk Lc.bd_set_demand ?l ?c ?k; (case l => k_is); (case c => k_is); (case k => k_is))
      (case a_buy_set => refine' Lc.at_mk Lc.bd_buy_set ?l ?c ?k; (case l => k_is); (case c => k_is); (case k => k_is))
      (case a_buy_cheapest => refine' Lc.at_mk Lc.bd_buy_cheapest ?l ?c ?k; (case l => k_is); (case c => k_is); (case k => k_is))
      (case a_tell_overlap => refine' Lc.at_mk Lc.bd_tell_overlap ?l ?c ?k; (case l => k_is); (case c => k_is); (case k => k_is))
      (case a_is_compatible => refine' Lc.at_mk Lc.bd_is_compatible ?l ?c ?k; (case l => k_is); (case c => k_is); (case k => k_is))
      (case a_tell_buyers_needed => refine' Lc.at_mk Lc.bd_tell_buyers_needed ?l ?c ?k; (case l => k_is); (case c => k_is); (case k => k_is))
      (case a_assign_buyers => refine' Lc.at_mk Lc.bd_assign_buyers ?l ?c ?k; (case l => k_is); (case c => k_is); (case k => k_is))
      (case a_tell_shortfall => refine' Lc.at_mk Lc.bd_tell_shortfall ?l ?c ?k; (case l => k_is); (case c => k_is); (case k => k_is))
      (case a_evaluate => refine' Lc.at_mk Lc.bd_evaluate ?l ?c ?k; (case l => k_is); (case c => k_is); (case k => k_is))
      (case a_cheapest_plan => refine' Lc.at_mk Lc.bd_cheapest_plan ?l ?c ?k; (case l => k_is); (case c => k_is); (case k => k_is))
      (case a_count_plans => refine' Lc.at_mk Lc.bd_count_plans ?l ?c ?k; (case l => k_is); (case c => k_is); (case k => k_is))
      (case a_max_units => refine' Lc.at_mk Lc.bd_max_units ?l ?c ?k; (case l => k_is); (case c => k_is); (case k => k_is))
      (case a_earliest_plan => refine' Lc.at_mk Lc.bd_earliest_plan ?l ?c ?k; (case l => k_is); (case c => k_is); (case k => k_is))
      (case a_cheapest_without_lot => refine' Lc.at_mk Lc.bd_cheapest_without_lot ?l ?c ?k; (case l => k_is); (case c => k_is); (case k => k_is))
      (case a_cheapest_if_demand => refine' Lc.at_mk Lc.bd_cheapest_if_demand ?l ?c ?k; (case l => k_is); (case c => k_is); (case k => k_is))
      (case a_saving_by_second_buyer => refine' Lc.at_mk Lc.bd_saving_by_second_buyer ?l ?c ?k; (case l => k_is); (case c => k_is); (case k => k_is))
      (case a_busiest_moment => refine' Lc.at_mk Lc.bd_busiest_moment ?l ?c ?k; (case l => k_is); (case c => k_is); (case k => k_is))
      (case a_list_lots => refine' Lc.at_mk Lc.bd_list_lots ?l ?c ?k; (case l => k_is); (case c => k_is); (case k => k_is))
      (case a_list_demand => refine' Lc.at_mk Lc.bd_list_demand ?l ?c ?k; (case l => k_is); (case c => k_is); (case k => k_is))
      (case a_status => refine' Lc.at_mk Lc.bd_status ?l ?c ?k; (case l => k_is); (case c => k_is); (case k => k_is))
      (case a_answer => refine' Lc.at_mk Lc.bd_answer ?l ?c ?k; (case l => k_is); (case c => k_is); (case k => k_is))
      (case a_answers => refine' Lc.at_mk Lc.bd_answers ?l ?c ?k; (case l => k_is); (case c => k_is); (case k => k_is))
  case S =>
    intro K H xs a hO hwi hask hx
    cases hx with
    | cons h1 h2 =>
      cases h2
      cases h1 with
      | lst hs ha =>
        have e := L2.ints_dw a.1 _ ha
        subst e
        have q : ((Codec.inLen 0 400 a.1 && a.1.all (Codec.inInt 0 2147483647)) && true) = true := hwi
        rw [Bool.and_eq_true, Bool.and_eq_true] at q
        refine ⟨_, a.1, rfl, hs, fun x hx => ?_, hask, fun H' p hp => .lst (L2.SqL.of hp) (L2.dw_ints _)⟩
        have z := List.all_eq_true.mp q.1.2 x hx
        exact (Codec.inInt_iff.mp z).1
#print axioms PySem.Challenge.cw_lotsonclocks_s01_answers_holds
