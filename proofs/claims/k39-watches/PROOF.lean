import PyProof.Rows.All
import Wide.All
import OpenK.AllK
import Wide.FinOn
import HandS.ForMost
import HandS.Strs
import HandS.SetFor
import HandS.SortRule
import HandS.Zip
import HandS.Walk
import HandS.IsInst
import HandS.Flow
import HandS.TupAny
import HandS.Codes
import PySem.Challenge.RW_truealmanac_k39_whole_plans_of_watches
set_option Elab.async false
set_option linter.all false
set_option maxRecDepth 100000
set_option autoImplicit false
namespace K39
/-! ## windows as plain pairs (start, end) -/
abbrev Wd := Int × Int
abbrev Ch := List Int × List Int
def wAt (ws : List Wd) (k : Nat) : Wd := ws.getD k (0, 0)

/-! ## the greedy plan: over the ranked pairs (end, index) -/
def stepP (ws : List Wd) (acc : Ch) (p : Int × Int) : Ch :=
  if acc.2.isEmpty || decide (acc.2.getLastD 0 < (wAt ws p.2.toNat).1) then (acc.1 ++ [p.2], acc.2 ++ [p.1]) else acc
def planF (ws : List Wd) (R : List (Int × Int)) : Ch := R.foldl (stepP ws) ([], [])

/-! ## the walk along the ends -/
def canTake (ws : List Wd) (stops : List Int) (k : Nat) : Bool := stops.isEmpty || decide (stops.getLastD 0 < (wAt ws k).1)
def freeOf (ws : List Wd) (stops : List Int) (e : Int) : List Nat :=
  (List.range ws.length).filter fun k => decide ((wAt ws k).2 = e) && canTake ws stops k
def pick1 (acc : Ch) (e : Int) : List Nat → Ch
  | [] => acc
  | k :: _ => (acc.1 ++ [(k : Int)], acc.2 ++ [e])
def stepL (ws : List Wd) (acc : Ch) (e : Int) : Ch := pick1 acc e (freeOf ws acc.2 e)
def planL (ws : List Wd) (E : List Int) : Ch := E.foldl (stepL ws) ([], [])

/-! ### both plans are one -/
theorem group_stay {ws : List Wd} {e : Int} : ∀ (L : List Nat) (acc : Ch), acc.2 ≠ [] → acc.2.getLastD 0 = e → (∀ k ∈ L, (wAt ws k).1 ≤ e) →
    (L.map fun (k : Nat) => (e, (k : Int))).foldl (stepP ws) acc = acc
  | [], acc, _, _, _ => rfl
  | k :: r, acc, h0, h1, h2 => by
    have hk : (wAt ws k).1 ≤ e := h2 k List.mem_cons_self
    have hs : stepP ws acc (e, (k : Int)) = acc := by
      unfold stepP
      rw [if_neg]
      intro q
      rw [Bool.or_eq_true] at q
      rcases q with q | q
      · exact h0 (List.isEmpty_iff.mp q)
      · have q2 := of_decide_eq_true q
        have e1 : ((k : Int)).toNat = k := Int.toNat_natCast k
        simp only [e1, h1] at q2
        omega
    show (r.map fun (k : Nat) => (e, (k : Int))).foldl (stepP ws) (stepP ws acc (e, (k : Int))) = acc
    rw [hs]
    exact group_stay r acc h0 h1 fun j hj => h2 j (List.mem_cons_of_mem _ hj)
theorem group_one {ws : List Wd} {e : Int} : ∀ (L : List Nat) (acc : Ch), (∀ k ∈ L, (wAt ws k).1 ≤ e) →
    (L.map fun (k : Nat) => (e, (k : Int))).foldl (stepP ws) acc = pick1 acc e (L.filter (canTake ws acc.2))
  | [], acc, _ => rfl
  | k :: r, acc, h2 => by
    have hr : ∀ j ∈ r, (wAt ws j).1 ≤ e := fun j hj => h2 j (List.mem_cons_of_mem _ hj)
    have e1 : ((k : Int)).toNat = k := Int.toNat_natCast k
    have hstep : stepP ws acc (e, (k : Int)) = if canTake ws acc.2 k = true then (acc.1 ++ [(k : Int)], acc.2 ++ [e]) else acc := by
      unfold stepP canTake
      simp only [e1]
    show (r.map fun (k : Nat) => (e, (k : Int))).foldl (stepP ws) (stepP ws acc (e, (k : Int))) = _
    rw [hstep]
    cases hc : canTake ws acc.2 k with
    | true =>
      rw [if_pos rfl, List.filter_cons_of_pos hc]
      refine group_stay r _ ?_ ?_ hr
      · simp
      · exact List.getLastD_concat
    | false =>
      rw [if_neg (by decide), List.filter_cons_of_neg (by rw [hc]; decide)]
      exact group_one r acc hr

/-- a list that rises by its first places, cut behind the least of them -/
theorem split_first {e : Int} : ∀ (R : List (Int × Int)), R.Pairwise (fun x y => x.1 ≤ y.1) → (∀ x ∈ R, e ≤ x.1) →
    R = R.filter (fun x => decide (x.1 = e)) ++ R.filter (fun x => !decide (x.1 = e))
  | [], _, _ => rfl
  | x :: r, hp, hm => by
    obtain ⟨h1, h2⟩ := List.pairwise_cons.mp hp
    have hmr : ∀ y ∈ r, e ≤ y.1 := fun y hy => hm y (List.mem_cons_of_mem _ hy)
    by_cases hx : x.1 = e
    · rw [List.filter_cons_of_pos (by simp [hx]), List.filter_cons_of_neg (by simp [hx])]
      exact congrArg (x :: ·) (split_first r h2 hmr)
    · have hlt : e < x.1 := by
        have := hm x List.mem_cons_self
        omega
      have no : ∀ y ∈ x :: r, ¬ (decide (y.1 = e) = true) := by
        intro y hy
        rcases List.mem_cons.mp hy with q | q
        · rw [q]; simpa using hx
        · have := h1 y q
          simp only [decide_eq_true_eq]
          omega
      have e1 : (x :: r).filter (fun x => decide (x.1 = e)) = [] := List.filter_eq_nil_iff.mpr no
      have e2 : (x :: r).filter (fun x => !decide (x.1 = e)) = x :: r := List.filter_eq_self.mpr fun y hy => by
        have := no y hy
        simpa using this
      rw [e1, e2]
      rfl
theorem split_all : ∀ (E : List Int) (R : List (Int × Int)), E.Pairwise (· < ·) → R.Pairwise (fun x y => x.1 ≤ y.1) → (∀ x ∈ R, x.1 ∈ E) →
    R = E.flatMap fun e => R.filter (fun x => decide (x.1 = e))
  | [], R, _, _, hm => by
    cases R with
    | nil => rfl
    | cons x r => exact absurd (hm x List.mem_cons_self) (by simp)
  | e :: E, R, hE, hR, hm => by
    obtain ⟨h1, h2⟩ := List.pairwise_cons.mp hE
    have hle : ∀ x ∈ R, e ≤ x.1 := fun x hx => by
      rcases List.mem_cons.mp (hm x hx) with q | q
      · omega
      · have := h1 _ q
        omega
    have hs := split_first (e := e) R hR hle
    have ih := split_all E (R.filter fun x => !decide (x.1 = e)) h2 (hR.filter _) fun x hx => by
      obtain ⟨a, b⟩ := List.mem_filter.mp hx
      rcases List.mem_cons.mp (hm x a) with q | q
      · simp [q] at b
      · exact q
    rw [List.flatMap_cons]
    refine hs.trans (congrArg (R.filter (fun x => decide (x.1 = e)) ++ ·) ?_)
    refine ih.trans ?_
    have key : ∀ e' ∈ E, (R.filter fun x => !decide (x.1 = e)).filter (fun x => decide (x.1 = e')) = R.filter (fun x => decide (x.1 = e')) := fun e' he' => by
      rw [List.filter_filter]
      refine List.filter_congr fun x _ => ?_
      have : e < e' := h1 e' he'
      by_cases q : x.1 = e'
      · have q2 : x.1 ≠ e := by omega
        simp [q, show e' ≠ e by omega]
      · simp [q]
    have aux : ∀ L : List Int, (∀ e' ∈ L, e' ∈ E) → L.flatMap (fun e' => (R.filter fun x => !decide (x.1 = e)).filter (fun x => decide (x.1 = e'))) = L.flatMap fun e' => R.filter (fun x => decide (x.1 = e')) := by
      intro L
      induction L with
      | nil => intro _; rfl
      | cons a r ih2 =>
        intro h
        rw [List.flatMap_cons, List.flatMap_cons, key a (h a List.mem_cons_self), ih2 fun b hb => h b (List.mem_cons_of_mem _ hb)]
    exact aux E fun _ h => h

/-- the order of the ranked pairs: x is not behind y -/
def leP (x y : Int × Int) : Prop := x.1 < y.1 ∨ (x.1 = y.1 ∧ x.2 ≤ y.2)
theorem leP_anti {x y : Int × Int} (a : leP x y) (b : leP y x) : x = y := by
  unfold leP at a b
  exact Prod.ext (by omega) (by omega)
def pairsOf (ws : List Wd) : List (Int × Int) := (List.range ws.length).map fun (k : Nat) => ((wAt ws k).2, (k : Int))
theorem group_is {ws : List Wd} {R : List (Int × Int)} {e : Int} (hp : R.Perm (pairsOf ws)) (hs : R.Pairwise leP) :
    R.filter (fun x => decide (x.1 = e)) = ((List.range ws.length).filter fun k => decide ((wAt ws k).2 = e)).map fun (k : Nat) => (e, (k : Int)) := by
  refine List.Perm.eq_of_pairwise (le := leP) (fun a b _ _ h1 h2 => leP_anti h1 h2) (hs.filter _) ?_ ?_
  · refine List.Pairwise.map _ (fun a b (h : a < b) => ?_) (List.pairwise_lt_range.filter _)
    exact .inr ⟨rfl, by show (a : Int) ≤ (b : Int); omega⟩
  · have h1 := hp.filter fun x => decide (x.1 = e)
    have h2 : (pairsOf ws).filter (fun x => decide (x.1 = e)) = ((List.range ws.length).filter fun k => decide ((wAt ws k).2 = e)).map fun (k : Nat) => (e, (k : Int)) := by
      unfold pairsOf
      rw [List.filter_map]
      refine List.map_congr_left fun k hk => ?_
      have q := (List.mem_filter.mp hk).2
      have q2 : (wAt ws k).2 = e := of_decide_eq_true q
      rw [q2]
    rw [h2] at h1
    exact h1
theorem wAt_mem {ws : List Wd} {k : Nat} (h : k < ws.length) : wAt ws k ∈ ws := by
  unfold wAt
  rw [List.getD_eq_getElem?_getD, List.getElem?_eq_getElem h]
  exact List.getElem_mem h
theorem plan_eq {ws : List Wd} {R : List (Int × Int)} {E : List Int} (wf : ∀ v ∈ ws, v.1 ≤ v.2) (hp : R.Perm (pairsOf ws)) (hs : R.Pairwise leP)
    (hE : E.Pairwise (· < ·)) (hm : ∀ e, e ∈ E ↔ ∃ v ∈ ws, v.2 = e) : planF ws R = planL ws E := by
  have hR1 : R.Pairwise (fun x y => x.1 ≤ y.1) := hs.imp fun {x y} h => by
    unfold leP at h
    omega
  have hmem : ∀ x ∈ R, x.1 ∈ E := fun x hx => by
    obtain ⟨k, hk, e⟩ := List.mem_map.mp (hp.mem_iff.mp hx)
    have hk2 := List.mem_range.mp hk
    exact (hm _).mpr ⟨wAt ws k, wAt_mem hk2, by rw [← e]⟩
  have hsp := split_all E R hE hR1 hmem
  unfold planF planL
  rw [hsp, List.foldl_flatMap]
  have st : (fun (acc : Ch) (e : Int) => List.foldl (stepP ws) acc (R.filter fun x => decide (x.1 = e))) = stepL ws := by
    funext acc e
    rw [group_is hp hs, group_one _ acc fun k hk => ?_, List.filter_filter]
    · unfold stepL freeOf
      congr 1
      refine List.filter_congr fun k _ => ?_
      exact Bool.and_comm _ _
    · obtain ⟨a, b⟩ := List.mem_filter.mp hk
      have q2 : (wAt ws k).2 = e := of_decide_eq_true b
      have := wf _ (wAt_mem (List.mem_range.mp a))
      omega
  rw [st]
end K39
namespace K39
/-! ## the rules of a plan -/
def inR (ws : List Wd) (k : Int) : Bool := decide (0 ≤ k) && decide (k < (ws.length : Int))
def wI (ws : List Wd) (k : Int) : Wd := wAt ws k.toNat
def apartAt (ws : List Wd) (ch : List Int) (i : Nat) : Bool := decide ((wI ws (ch.getD i 0)).2 < (wI ws (ch.getD (i + 1) 0)).1)
def riseAt (st : List Int) (i : Nat) : Bool := decide (st.getD i 0 < st.getD (i + 1) 0)
def meets (w : Wd) (s : Int) : Bool := decide (w.1 ≤ s) && decide (s ≤ w.2)
def coverB (ws : List Wd) (st : List Int) : Bool := ws.all fun w => st.any (meets w)
def takesB (ws : List Wd) (ch st : List Int) : Bool :=
  decide (ch.length = st.length) && (ch.all (inR ws) && ((List.range (ch.length - 1)).all (fun i => apartAt ws ch i && riseAt st i) && coverB ws st))

structure Takes (ws : List Wd) (ch st : List Int) : Prop where
  len : ch.length = st.length
  idx : ∀ k ∈ ch, 0 ≤ k ∧ k < (ws.length : Int)
  apart : ∀ i, i + 1 < ch.length → (wI ws (ch.getD i 0)).2 < (wI ws (ch.getD (i + 1) 0)).1
  rise : ∀ i, i + 1 < ch.length → st.getD i 0 < st.getD (i + 1) 0
  cover : ∀ w ∈ ws, ∃ s ∈ st, w.1 ≤ s ∧ s ≤ w.2
theorem takes_iff {ws : List Wd} {ch st : List Int} : takesB ws ch st = true ↔ Takes ws ch st := by
  unfold takesB
  simp only [Bool.and_eq_true, decide_eq_true_eq, List.all_eq_true, List.mem_range]
  constructor
  · rintro ⟨h1, h2, h3, h4⟩
    refine ⟨h1, fun k hk => ?_, fun i hi => ?_, fun i hi => ?_, fun w hw => ?_⟩
    · have := h2 k hk
      unfold inR at this
      simpa using this
    · have := (h3 i (by omega)).1
      unfold apartAt at this
      exact of_decide_eq_true this
    · have := (h3 i (by omega)).2
      unfold riseAt at this
      exact of_decide_eq_true this
    · unfold coverB at h4
      rw [List.all_eq_true] at h4
      have := h4 w hw
      rw [List.any_eq_true] at this
      obtain ⟨s, hs, q⟩ := this
      unfold meets at q
      exact ⟨s, hs, by simpa using q⟩
  · intro T
    refine ⟨T.len, fun k hk => ?_, fun i hi => ⟨?_, ?_⟩, ?_⟩
    · unfold inR
      simpa using T.idx k hk
    · unfold apartAt
      exact decide_eq_true (T.apart i (by omega))
    · unfold riseAt
      exact decide_eq_true (T.rise i (by omega))
    · unfold coverB
      rw [List.all_eq_true]
      intro w hw
      rw [List.any_eq_true]
      obtain ⟨s, hs, q⟩ := T.cover w hw
      refine ⟨s, hs, ?_⟩
      unfold meets
      simpa using q

/-! ## the walk's plan is taken -/
structure Along (ws : List Wd) (acc : Ch) (done : Int → Prop) : Prop where
  len : acc.1.length = acc.2.length
  at_ : ∀ i, i < acc.1.length → 0 ≤ acc.1.getD i 0 ∧ acc.1.getD i 0 < (ws.length : Int) ∧ (wI ws (acc.1.getD i 0)).2 = acc.2.getD i 0
  chain : ∀ i, i + 1 < acc.1.length → acc.2.getD i 0 < (wI ws (acc.1.getD (i + 1) 0)).1
  cover : ∀ w ∈ ws, done w.2 → ∃ s ∈ acc.2, w.1 ≤ s ∧ s ≤ w.2
  ofs : ∀ s ∈ acc.2, done s
theorem getD_append_lt {l r : List Int} {i : Nat} (h : i < l.length) : (l ++ r).getD i 0 = l.getD i 0 := by
  rw [List.getD_eq_getElem?_getD, List.getD_eq_getElem?_getD, List.getElem?_append_left h]
theorem getD_append_eq {l : List Int} {x : Int} {i : Nat} (h : i = l.length) : (l ++ [x]).getD i 0 = x := by
  subst h
  rw [List.getD_eq_getElem?_getD]
  simp
theorem getLastD_getD {l : List Int} (h : l ≠ []) : l.getLastD 0 = l.getD (l.length - 1) 0 := by
  rw [List.getLastD_eq_getLast?, List.getLast?_eq_getElem?, List.getD_eq_getElem?_getD]
theorem getD_mem {l : List Int} {i : Nat} (h : i < l.length) : l.getD i 0 ∈ l := by
  rw [List.getD_eq_getElem?_getD, List.getElem?_eq_getElem h]
  exact List.getElem_mem h
theorem along_step {ws : List Wd} (wf : ∀ v ∈ ws, v.1 ≤ v.2) {acc : Ch} {done : Int → Prop} {e : Int} (A : Along ws acc done) (hd : ∀ x, done x → x < e) :
    Along ws (stepL ws acc e) (fun x => done x ∨ x = e) := by
  unfold stepL
  cases hf : freeOf ws acc.2 e with
  | nil =>
    show Along ws acc _
    refine ⟨A.len, A.at_, A.chain, fun w hw h => ?_, fun s hs => .inl (A.ofs s hs)⟩
    rcases h with h | h
    · exact A.cover w hw h
    · obtain ⟨k, hk, ek⟩ := List.mem_iff_getElem.mp hw
      have hno : ¬ (decide ((wAt ws k).2 = e) && canTake ws acc.2 k) = true := by
        unfold freeOf at hf
        exact List.filter_eq_nil_iff.mp hf k (List.mem_range.mpr hk)
      have ew : wAt ws k = w := by
        unfold wAt
        rw [List.getD_eq_getElem?_getD, List.getElem?_eq_getElem hk, ek]
        rfl
      rw [ew, decide_eq_true h, Bool.true_and] at hno
      unfold canTake at hno
      rw [Bool.or_eq_true, not_or] at hno
      obtain ⟨n1, n2⟩ := hno
      have hne : acc.2 ≠ [] := fun z => n1 (List.isEmpty_iff.mpr z)
      rw [decide_eq_true_eq, ew] at n2
      have hpos : 0 < acc.2.length := List.length_pos_iff.mpr hne
      have hm : acc.2.getLastD 0 ∈ acc.2 := by
        rw [getLastD_getD hne]
        exact getD_mem (by omega)
      refine ⟨_, hm, by omega, ?_⟩
      have := hd _ (A.ofs _ hm)
      omega
  | cons k r =>
    show Along ws (acc.1 ++ [(k : Int)], acc.2 ++ [e]) _
    have hk : k ∈ freeOf ws acc.2 e := by rw [hf]; exact List.mem_cons_self
    unfold freeOf at hk
    obtain ⟨h1, h2⟩ := List.mem_filter.mp hk
    have hkl := List.mem_range.mp h1
    rw [Bool.and_eq_true, decide_eq_true_eq] at h2
    obtain ⟨h2, h3⟩ := h2
    have hI : wI ws (k : Int) = wAt ws k := by
      unfold wI
      rw [Int.toNat_natCast]
    have hl := A.len
    refine ⟨?_, fun i hi => ?_, fun i hi => ?_, fun w hw h => ?_, fun s hs => ?_⟩
    · simp [hl]
    · simp only [List.length_append, List.length_singleton] at hi
      by_cases q : i < acc.1.length
      · rw [getD_append_lt q, getD_append_lt (by omega)]
        exact A.at_ i q
      · have q2 : i = acc.1.length := by omega
        rw [getD_append_eq q2, getD_append_eq (by omega), hI]
        exact ⟨by omega, by omega, h2⟩
    · simp only [List.length_append, List.length_singleton] at hi
      by_cases q : i + 1 < acc.1.length
      · rw [getD_append_lt q, getD_append_lt (by omega)]
        exact A.chain i q
      · have q2 : i + 1 = acc.1.length := by omega
        rw [getD_append_eq q2, getD_append_lt (by omega), hI]
        unfold canTake at h3
        rw [Bool.or_eq_true, decide_eq_true_eq] at h3
        rcases h3 with h3 | h3
        · have : acc.2 = [] := List.isEmpty_iff.mp h3
          rw [this] at hl
          simp at hl
          rw [hl] at q2
          simp at q2
        · have hne : acc.2 ≠ [] := fun z => by
            rw [z] at hl
            simp at hl
            rw [hl] at q2
            simp at q2
          rw [getLastD_getD hne] at h3
          have e1 : acc.2.length - 1 = i := by omega
          rw [e1] at h3
          exact h3
    · rcases h with h | h
      · obtain ⟨s, hs, q⟩ := A.cover w hw h
        exact ⟨s, List.mem_append_left _ hs, q⟩
      · refine ⟨e, List.mem_append_right _ (by simp), ?_, by omega⟩
        have := wf w hw
        omega
    · rcases List.mem_append.mp hs with q | q
      · exact .inl (A.ofs s q)
      · exact .inr (by simpa using q)
theorem along_all {ws : List Wd} (wf : ∀ v ∈ ws, v.1 ≤ v.2) : ∀ (E : List Int) (acc : Ch) (done : Int → Prop), Along ws acc done → (∀ x e, done x → e ∈ E → x < e) → E.Pairwise (· < ·) →
    Along ws (E.foldl (stepL ws) acc) (fun x => done x ∨ x ∈ E)
  | [], acc, done, A, _, _ => by
    refine ⟨A.len, A.at_, A.chain, fun w hw h => ?_, fun s hs => .inl (A.ofs s hs)⟩
    rcases h with h | h
    · exact A.cover w hw h
    · simp at h
  | e :: E, acc, done, A, hd, hE => by
    obtain ⟨h1, h2⟩ := List.pairwise_cons.mp hE
    have B := along_all wf E (stepL ws acc e) (fun x => done x ∨ x = e) (along_step wf A fun x hx => hd x e hx List.mem_cons_self) (fun x y hx hy => by
      rcases hx with hx | hx
      · exact hd x y hx (List.mem_cons_of_mem _ hy)
      · rw [hx]; exact h1 y hy) h2
    show Along ws (E.foldl (stepL ws) (stepL ws acc e)) _
    have eq : (fun x => (done x ∨ x = e) ∨ x ∈ E) = (fun x => done x ∨ x ∈ e :: E) := by
      funext x
      rw [List.mem_cons, or_assoc]
    rw [← eq]
    exact B
theorem planL_takes {ws : List Wd} {E : List Int} (wf : ∀ v ∈ ws, v.1 ≤ v.2) (hE : E.Pairwise (· < ·)) (hm : ∀ e, e ∈ E ↔ ∃ v ∈ ws, v.2 = e) :
    Takes ws (planL ws E).1 (planL ws E).2 := by
  have A0 : Along ws ([], []) (fun _ => False) := ⟨rfl, fun i hi => by simp at hi, fun i hi => by simp at hi, fun _ _ h => h.elim, fun s hs => by simp at hs⟩
  have A := along_all wf E ([], []) (fun _ => False) A0 (fun _ _ h => h.elim) hE
  have A : Along ws (planL ws E) (fun x => False ∨ x ∈ E) := A
  refine ⟨A.len, fun k hk => ?_, fun i hi => ?_, fun i hi => ?_, fun w hw => A.cover w hw (.inr ((hm _).mpr ⟨w, hw, rfl⟩))⟩
  · obtain ⟨i, hi, e⟩ := List.mem_iff_getElem.mp hk
    have q := A.at_ i hi
    rw [List.getD_eq_getElem?_getD, List.getElem?_eq_getElem hi, e] at q
    exact ⟨q.1, q.2.1⟩
  · have q := A.chain i hi
    rw [(A.at_ i (by omega)).2.2]
    exact q
  · have q := A.chain i hi
    have q2 := A.at_ (i + 1) hi
    have q3 : (wI ws ((planL ws E).1.getD (i + 1) 0)).1 ≤ (wI ws ((planL ws E).1.getD (i + 1) 0)).2 := wf _ (wAt_mem (by omega))
    omega
end K39
namespace K39
/-! ## the count of all choices -/
def mx (l : List Int) : Int := l.foldl max 0
theorem mx_le : ∀ (l : List Int) (a B : Int), a ≤ B → (∀ x ∈ l, x ≤ B) → l.foldl max a ≤ B
  | [], a, B, h, _ => h
  | x :: r, a, B, h, h2 => mx_le r (max a x) B (by have := h2 x List.mem_cons_self; omega) fun y hy => h2 y (List.mem_cons_of_mem _ hy)
theorem mx_ge : ∀ (l : List Int) (a : Int), a ≤ l.foldl max a ∧ ∀ x ∈ l, x ≤ l.foldl max a
  | [], a => ⟨Int.le_refl _, fun x hx => by simp at hx⟩
  | x :: r, a => by
    obtain ⟨h1, h2⟩ := mx_ge r (max a x)
    show a ≤ r.foldl max (max a x) ∧ _
    refine ⟨by omega, fun y hy => ?_⟩
    show y ≤ r.foldl max (max a x)
    rcases List.mem_cons.mp hy with q | q
    · rw [q]; omega
    · exact h2 y q
theorem mx_mem : ∀ (l : List Int) (a : Int), l.foldl max a ∈ a :: l
  | [], a => List.mem_cons_self
  | x :: r, a => by
    have h := mx_mem r (max a x)
    show r.foldl max (max a x) ∈ a :: x :: r
    rcases List.mem_cons.mp h with q | q
    · rw [q]
      by_cases c : a ≤ x
      · rw [Int.max_eq_right c]; simp
      · rw [Int.max_eq_left (by omega)]; exact List.mem_cons_self
    · exact List.mem_cons_of_mem _ (List.mem_cons_of_mem _ q)
/-- what max([0] + l) gives -/
theorem mx_uniq {l : List Int} {m : Int} (h1 : m ∈ 0 :: l) (h2 : ∀ x ∈ 0 :: l, x ≤ m) : m = mx l := by
  have a := mx_ge l 0
  have b := h2 _ (mx_mem l 0)
  have c : m ≤ mx l := by
    rcases List.mem_cons.mp h1 with q | q
    · rw [q]; exact a.1
    · exact a.2 m q
  have b : mx l ≤ m := b
  omega

abbrev Pr := Int × Int
def rAt (R : List Pr) (k : Nat) : Pr := R.getD k (0, 0)
def isBefore (R : List Pr) (k j : Nat) : Bool := decide ((rAt R j).1 < (rAt R k).2)
def befores (R : List Pr) (c : List Int) (k : Nat) : List Int := ((List.range k).filter (isBefore R k)).map fun j => c.getD j 0
def cnts (R : List Pr) : Nat → List Int
  | 0 => []
  | k + 1 => cnts R k ++ [1 + mx (befores R (cnts R k) k)]
def mostF (R : List Pr) : Int := mx (cnts R R.length)
theorem cnts_len (R : List Pr) : ∀ k, (cnts R k).length = k
  | 0 => rfl
  | k + 1 => by
    show (cnts R k ++ [_]).length = k + 1
    rw [List.length_append, cnts_len R k]
    rfl
def cAt (R : List Pr) (j : Nat) : Int := (cnts R (j + 1)).getD j 0
theorem cnts_get (R : List Pr) : ∀ (k j : Nat), j < k → (cnts R k).getD j 0 = cAt R j
  | 0, j, h => absurd h (by omega)
  | k + 1, j, h => by
    by_cases e : j = k
    · rw [e]; rfl
    · show (cnts R k ++ [_]).getD j 0 = cAt R j
      rw [getD_append_lt (by rw [cnts_len]; omega)]
      exact cnts_get R k j (by omega)
theorem cAt_eq (R : List Pr) (k : Nat) : cAt R k = 1 + mx (((List.range k).filter (isBefore R k)).map (cAt R)) := by
  show (cnts R k ++ [1 + mx (befores R (cnts R k) k)]).getD k 0 = _
  rw [getD_append_eq (cnts_len R k).symm]
  unfold befores
  congr 2
  refine List.map_congr_left fun j hj => ?_
  exact cnts_get R k j (List.mem_range.mp (List.mem_filter.mp hj).1)
theorem mem_cnts {R : List Pr} {k : Nat} {x : Int} : x ∈ cnts R k ↔ ∃ j, j < k ∧ x = cAt R j := by
  constructor
  · intro h
    obtain ⟨i, hi, e⟩ := List.mem_iff_getElem.mp h
    rw [cnts_len] at hi
    refine ⟨i, hi, ?_⟩
    rw [← cnts_get R k i hi, List.getD_eq_getElem?_getD, List.getElem?_eq_getElem (by rw [cnts_len]; exact hi), e]
    rfl
  · rintro ⟨j, hj, e⟩
    rw [e, ← cnts_get R k j hj]
    exact getD_mem (by rw [cnts_len]; exact hj)

theorem countP_step : ∀ {l : List Int} {p q : Int → Bool} {s : Int}, (∀ x, p x = true → q x = true) → s ∈ l → q s = true → p s = false → l.countP p + 1 ≤ l.countP q
  | [], _, _, _, _, h, _, _ => by simp at h
  | x :: r, p, q, s, hpq, hs, hq, hp => by
    rw [List.countP_cons, List.countP_cons]
    have mono : r.countP p ≤ r.countP q := List.countP_mono_left fun y _ h => hpq y h
    rcases List.mem_cons.mp hs with e | e
    · rw [← e, hq, hp]
      simp only [if_true]
      simp
      exact mono
    · have ih := countP_step (l := r) hpq e hq hp
      have : (if p x = true then 1 else 0) ≤ (if q x = true then 1 else 0) := by
        by_cases c : p x = true
        · rw [if_pos c, if_pos (hpq x c)]; exact Nat.le_refl _
        · rw [if_neg c]; exact Nat.zero_le _
      omega
def swapP (w : Wd) : Pr := (w.2, w.1)
def upTo (e : Int) (s : Int) : Bool := decide (s ≤ e)
theorem rAt_mem {R : List Pr} {k : Nat} (h : k < R.length) : rAt R k ∈ R := wAt_mem h
/-- no chain is longer than the stops -/
theorem most_le {ws : List Wd} {R : List Pr} {st : List Int} (hp : R.Perm (ws.map swapP)) (hc : ∀ w ∈ ws, ∃ s ∈ st, w.1 ≤ s ∧ s ≤ w.2) :
    ∀ k, k < R.length → cAt R k ≤ (st.countP (upTo (rAt R k).1) : Nat) := by
  intro k
  induction k using Nat.strongRecOn with
  | _ k ih =>
    intro hk
    rw [cAt_eq]
    obtain ⟨w, hw, ew⟩ := List.mem_map.mp (hp.mem_iff.mp (rAt_mem hk))
    obtain ⟨s, hs, h1, h2⟩ := hc w hw
    have e1 : (rAt R k).1 = w.2 := by rw [← ew]; rfl
    have e2 : (rAt R k).2 = w.1 := by rw [← ew]; rfl
    have one : 1 ≤ st.countP (upTo (rAt R k).1) := by
      refine List.countP_pos_iff.mpr ⟨s, hs, ?_⟩
      unfold upTo
      rw [e1]
      exact decide_eq_true h2
    have : mx (((List.range k).filter (isBefore R k)).map (cAt R)) ≤ (st.countP (upTo (rAt R k).1) : Nat) - 1 := by
      refine mx_le _ _ _ (by omega) fun x hx => ?_
      obtain ⟨j, hj, ex⟩ := List.mem_map.mp hx
      obtain ⟨hj1, hj2⟩ := List.mem_filter.mp hj
      have hjk := List.mem_range.mp hj1
      have hb : (rAt R j).1 < (rAt R k).2 := of_decide_eq_true hj2
      have q := ih j hjk (by omega)
      have cs := countP_step (l := st) (p := upTo (rAt R j).1) (q := upTo (rAt R k).1) (s := s) (fun x hx => by
        have := of_decide_eq_true hx
        have w1 : w.1 ≤ w.2 := by omega
        exact decide_eq_true (by omega)) hs (decide_eq_true (by omega)) (decide_eq_false (by omega))
      rw [← ex]
      omega
    omega
theorem chain_ge {ws : List Wd} {R : List Pr} {ch : List Int} (wf : ∀ v ∈ ws, v.1 ≤ v.2) (hp : R.Perm (ws.map swapP)) (hs : R.Pairwise leP) (hi : ∀ k ∈ ch, 0 ≤ k ∧ k < (ws.length : Int))
    (ha : ∀ i, i + 1 < ch.length → (wI ws (ch.getD i 0)).2 < (wI ws (ch.getD (i + 1) 0)).1) :
    ∀ i, i < ch.length → ∃ p, p < R.length ∧ rAt R p = swapP (wI ws (ch.getD i 0)) ∧ (i : Int) + 1 ≤ cAt R p := by
  have place : ∀ i, i < ch.length → ∃ p, p < R.length ∧ rAt R p = swapP (wI ws (ch.getD i 0)) := fun i h => by
    have q := hi _ (getD_mem h)
    have hm : wI ws (ch.getD i 0) ∈ ws := wAt_mem (by omega)
    obtain ⟨p, hp1, e⟩ := List.mem_iff_getElem.mp (hp.mem_iff.mpr (List.mem_map.mpr ⟨_, hm, rfl⟩))
    refine ⟨p, hp1, ?_⟩
    unfold rAt
    rw [List.getD_eq_getElem?_getD, List.getElem?_eq_getElem hp1, e]
    rfl
  intro i
  induction i with
  | zero =>
    intro h
    obtain ⟨p, h1, h2⟩ := place 0 h
    refine ⟨p, h1, h2, ?_⟩
    rw [cAt_eq]
    have := (mx_ge (((List.range p).filter (isBefore R p)).map (cAt R)) 0).1
    have : 0 ≤ mx (((List.range p).filter (isBefore R p)).map (cAt R)) := this
    omega
  | succ i ih =>
    intro h
    obtain ⟨p, h1, h2, h3⟩ := ih (by omega)
    obtain ⟨p', g1, g2⟩ := place (i + 1) h
    refine ⟨p', g1, g2, ?_⟩
    have hlt := ha i h
    have e1 : (rAt R p).1 = (wI ws (ch.getD i 0)).2 := by rw [h2]; rfl
    have e2 : (rAt R p').2 = (wI ws (ch.getD (i + 1) 0)).1 := by rw [g2]; rfl
    have e3 : (rAt R p').1 = (wI ws (ch.getD (i + 1) 0)).2 := by rw [g2]; rfl
    have q := hi _ (getD_mem h)
    have hm : wI ws (ch.getD (i + 1) 0) ∈ ws := wAt_mem (by omega)
    have hw := wf _ hm
    have hpp : p < p' := by
      rcases Nat.lt_or_ge p p' with c | c
      · exact c
      · exfalso
        have key : (rAt R p').1 ≤ (rAt R p).1 := by
          by_cases e : p' = p
          · rw [e]; exact Int.le_refl _
          · have r := List.pairwise_iff_getElem.mp hs p' p g1 h1 (by omega)
            unfold rAt
            rw [List.getD_eq_getElem?_getD, List.getD_eq_getElem?_getD, List.getElem?_eq_getElem h1, List.getElem?_eq_getElem g1]
            show (R[p']).1 ≤ (R[p]).1
            unfold leP at r
            omega
        omega
    rw [cAt_eq]
    have big : cAt R p ≤ mx (((List.range p').filter (isBefore R p')).map (cAt R)) := by
      refine (mx_ge _ 0).2 _ (List.mem_map.mpr ⟨p, List.mem_filter.mpr ⟨List.mem_range.mpr hpp, ?_⟩, rfl⟩)
      exact decide_eq_true (by omega)
    omega
theorem most_is {ws : List Wd} {R : List Pr} {ch st : List Int} (wf : ∀ v ∈ ws, v.1 ≤ v.2) (hp : R.Perm (ws.map swapP)) (hs : R.Pairwise leP) (T : Takes ws ch st) :
    mostF R = (ch.length : Int) := by
  have up : mostF R ≤ (ch.length : Int) := by
    refine mx_le _ _ _ (by omega) fun x hx => ?_
    obtain ⟨j, hj, e⟩ := mem_cnts.mp hx
    have := most_le hp T.cover j hj
    have h2 := List.countP_le_length (p := upTo (rAt R j).1) (l := st)
    have h3 := T.len
    omega
  have dn : (ch.length : Int) ≤ mostF R := by
    have h0 : 0 ≤ mostF R := (mx_ge _ 0).1
    cases hc : ch.length with
    | zero => exact h0
    | succ i =>
      obtain ⟨p, h1, _, h3⟩ := chain_ge wf hp hs T.idx T.apart i (by omega)
      have : cAt R p ≤ mostF R := (mx_ge _ 0).2 _ (mem_cnts.mpr ⟨p, h1, rfl⟩)
      omega
  omega
end K39
namespace K39
open PySem PySem.Spec PyProof.Rows L2
/-! ### the text -/
def topS (i : Nat) : Stmt := PySem.Challenge.pw_truealmanac_k39_whole_plans_of_watches.main.body.getD i (.Pass ⟨0, 0, 0, 0⟩)
abbrev sPlan : Stmt := topS 1
abbrev sTakes : Stmt := topS 2
abbrev sStart : Stmt := topS 4
abbrev sDraw : Stmt := topS 5
abbrev sPick : Stmt := topS 6
abbrev sIs : Stmt := topS 8
abbrev sLplan : Stmt := topS 9
abbrev sMost : Stmt := topS 10
abbrev sLtakes : Stmt := topS 11
abbrev sSpoilt : Stmt := topS 12
abbrev sLaw : Stmt := topS 13
theorem scPlan : FnScope ["windows", "ranked", "chosen", "stops", "end", "index", "_"] ["windows"] (defScope sPlan) := ⟨rfl, rfl, rfl, by decide +kernel, rfl, by decide +kernel, by decide +kernel⟩
theorem scTakes : FnScope ["windows", "chosen", "stops", "told", "index", "before", "after", "stop", "start", "end"] ["windows", "chosen", "stops"] (defScope sTakes) := ⟨rfl, rfl, rfl, by decide +kernel, rfl, by decide +kernel, by decide +kernel⟩
theorem scStart : FnScope ["_law_script", "_law_cell"] ["_law_script"] (defScope sStart) := ⟨rfl, rfl, rfl, by decide +kernel, rfl, by decide +kernel, by decide +kernel⟩
theorem scDraw : FnScope ["_law_state", "_law_bound", "_law_cell", "_law_number"] ["_law_state", "_law_bound"] (defScope sDraw) := ⟨rfl, rfl, rfl, by decide +kernel, rfl, by decide +kernel, by decide +kernel⟩
theorem scPick : FnScope ["_law_state", "_law_things"] ["_law_state", "_law_things"] (defScope sPick) := ⟨rfl, rfl, rfl, by decide +kernel, rfl, by decide +kernel, by decide +kernel⟩
theorem scIs : FnScope ["_law_actual", "_law_due"] ["_law_actual", "_law_due"] (defScope sIs) := ⟨rfl, rfl, rfl, by decide +kernel, rfl, by decide +kernel, by decide +kernel⟩
theorem scLplan : FnScope ["_law_windows", "_law_chosen", "_law_stops", "_law_end", "_law_free", "_law_window", "_law_k"] ["_law_windows"] (defScope sLplan) := ⟨rfl, rfl, rfl, by decide +kernel, rfl, by decide +kernel, by decide +kernel⟩
theorem scMost : FnScope ["_law_windows", "_law_ranked", "_law_counts", "_law_k", "_law_before", "_law_window", "_law_j"] ["_law_windows"] (defScope sMost) := ⟨rfl, rfl, rfl, by decide +kernel, rfl, by decide +kernel, by decide +kernel⟩
theorem scLtakes : FnScope ["_law_windows", "_law_chosen", "_law_stops", "_law_k", "_law_window", "_law_stop"] ["_law_windows", "_law_chosen", "_law_stops"] (defScope sLtakes) := ⟨rfl, rfl, rfl, by decide +kernel, rfl, by decide +kernel, by decide +kernel⟩
theorem scSpoilt : FnScope ["_law_state", "_law_numbers", "_law_at", "_law_kind"] ["_law_state", "_law_numbers"] (defScope sSpoilt) := ⟨rfl, rfl, rfl, by decide +kernel, rfl, by decide +kernel, by decide +kernel⟩
theorem scLaw : FnScope ["_law_script", "_law_state", "_law_windows", "_law_k", "_law_start_here", "_law_kept", "_law_due", "_law_chosen", "_law_stops", "_law_expected"] ["_law_script"] (defScope sLaw) := ⟨rfl, rfl, rfl, by decide +kernel, rfl, by decide +kernel, by decide +kernel⟩
end K39
namespace K39
open PySem PySem.Spec PyProof.Rows L2
open C8 (tCut pss_cut)
/-- the built-ins that the text's defs call by name are still the built-ins -/
structure Bl (mg : Str → Option Value) : Prop where
  abs_ : mg "abs" = none
  int_ : mg "int" = none
  len : mg "len" = none
  range : mg "range" = none
  sorted : mg "sorted" = none
  set : mg "set" = none
  max : mg "max" = none
  list : mg "list" = none
  tuple : mg "tuple" = none
  isin : mg "isinstance" = none
  bool : mg "bool" = none
  all : mg "all" = none
  any : mg "any" = none
  zip : mg "zip" = none
  enum : mg "enumerate" = none

/-! ### heaps -/
theorem same_new {H : Hp} {p : Addr} {o : HO} (h : H p = none) : Same H (upd H p o) := fun b x e => by
  rw [upd_ne (ne_of_none e h)]
  exact e
/-- all that was tracked is as it was, but for what stands at d -/
def SameBut (d : Addr) (H H' : Hp) : Prop := ∀ b o, b ≠ d → H b = some o → H' b = some o
theorem SameBut.of {d : Addr} {H H' : Hp} (h : Same H H') : SameBut d H H' := fun b o _ e => h b o e
theorem SameBut.refl (d : Addr) (H : Hp) : SameBut d H H := fun _ _ _ e => e
theorem SameBut.trans {d : Addr} {H H1 H2 : Hp} (a : SameBut d H H1) (b : SameBut d H1 H2) : SameBut d H H2 := fun c o n e => b c o n (a c o n e)
theorem SameBut.put {d : Addr} {H : Hp} {o : HO} : SameBut d H (upd H d o) := fun b x n e => by rw [upd_ne n]; exact e

/-! ### the state of the draws -/
def stKvs (c : Addr) (at_ left mix : Int) : List (Key × V) := [(.inr "cells", .ref c), (.inr "at", .int at_), (.inr "left", .int left), (.inr "mix", .int mix)]
structure StAt (H : Hp) (d c : Addr) (cells : List Int) (at_ left mix : Int) : Prop where
  dict : H d = some (.dK (stKvs c at_ left mix))
  lst : H c = some (.lst (cells.map V.int))
  nn : ∀ x ∈ cells, 0 ≤ x
  a0 : 0 ≤ at_
  l0 : 0 ≤ left
  m0 : 0 ≤ mix
  m1 : mix < 2147483647
def StOk (H : Hp) (d c : Addr) : Prop := ∃ cells at_ left mix, StAt H d c cells at_ left mix
theorem StOk.same {H H' : Hp} {d c : Addr} (h : StOk H d c) (s : Same H H') : StOk H' d c := by
  obtain ⟨cells, at_, left, mix, D⟩ := h
  exact ⟨cells, at_, left, mix, s _ _ D.dict, s _ _ D.lst, D.nn, D.a0, D.l0, D.m0, D.m1⟩
theorem StAt.ne {H : Hp} {d c : Addr} {cells : List Int} {at_ left mix : Int} (h : StAt H d c cells at_ left mix) : c ≠ d := ne_of h.lst h.dict (by intro z; cases z)
theorem StAt.put {H : Hp} {d c : Addr} {cells : List Int} {at_ left mix a' l' m' : Int} (h : StAt H d c cells at_ left mix) (h1 : 0 ≤ a') (h2 : 0 ≤ l') (h3 : 0 ≤ m') (h4 : m' < 2147483647) :
    StAt (upd H d (.dK (stKvs c a' l' m'))) d c cells a' l' m' := ⟨upd_same, by rw [upd_ne h.ne]; exact h.lst, h.nn, h1, h2, h3, h4⟩
theorem st_cells {c : Addr} {at_ left mix : Int} : valV (stKvs c at_ left mix) (.inr "cells") = some (.ref c) := by with_unfolding_all rfl
theorem st_at {c : Addr} {at_ left mix : Int} : valV (stKvs c at_ left mix) (.inr "at") = some (.int at_) := by with_unfolding_all rfl
theorem st_left {c : Addr} {at_ left mix : Int} : valV (stKvs c at_ left mix) (.inr "left") = some (.int left) := by with_unfolding_all rfl
theorem st_mix {c : Addr} {at_ left mix : Int} : valV (stKvs c at_ left mix) (.inr "mix") = some (.int mix) := by with_unfolding_all rfl
theorem put_at {c : Addr} {at_ left mix x : Int} : putK (stKvs c at_ left mix) (.inr "at") (.int x) = stKvs c x left mix := by with_unfolding_all rfl
theorem put_left {c : Addr} {at_ left mix x : Int} : putK (stKvs c at_ left mix) (.inr "left") (.int x) = stKvs c at_ x mix := by with_unfolding_all rfl
theorem put_mix {c : Addr} {at_ left mix x : Int} : putK (stKvs c at_ left mix) (.inr "mix") (.int x) = stKvs c at_ left x := by with_unfolding_all rfl
theorem st_new {c : Addr} {at_ left mix : Int} : mergeK [] (stKvs c at_ left mix) = stKvs c at_ left mix := by with_unfolding_all rfl

section
variable {P : Program} {w : World} {K : PySem.W.Frag} {mg : Str → Option Value} {base : Heap}
/-! ### _law_is -/
def spIs : Sp := fun vs H Q _ => ∃ a b : Bool, vs = [.bl a, .bl b] ∧ Q (.bl (decide (a = b))) H
theorem ok_is {f : Addr} {fd : FuncData} {k : Nat} (B : Bl mg) (F : Fun K "_law_is" "_law_is" sIs f fd) : FnOk P w K mg base CX0 (k + 1) f fd ["_law_actual", "_law_due"] spIs := by
  refine F.ok scIs (fun vs H Q E h => ?_) (fun cdv A outer s H vs Q E hr h => ?_)
  · obtain ⟨a, b, rfl, _⟩ := h
    rfl
  · obtain ⟨a, b, rfl, q⟩ := h
    refine ⟨_, pss_one (ps_ret (pe_and (pe_callB call_isi (by rfl) B.isin (by decide +kernel) (pa_cons (pv 0) (pa_cons (pe_bltn (v := .ty "bool") (by rfl) B.bool PyProof.Rows.boot_bool rfl) pa_nil)))
      (pe_one (pe_cmpR op_eq (pv 0) (pv 1) (nomark _))))), ?_⟩
    refine ⟨_, rfl, _, _, _, _, true, rfl, .ty _, .base (.bl a), kit_ty (by decide +kernel), true, rfl, iteT ?_⟩
    refine ⟨_, rfl, _, rfl, rfl, ?_⟩
    show Q (.bl (decide (V.bl a = V.bl b))) H
    have e : decide (V.bl a = V.bl b) = decide (a = b) := by
      by_cases h : a = b
      · subst h; simp
      · rw [decide_eq_false h, decide_eq_false (fun z => h (V.bl.inj z))]
    rw [e]
    exact q
/-! ### _law_start -/
def spStart (K : PySem.W.Frag) : Sp := fun vs H Q _ => ∃ (a : Addr) (ns : List Int), vs = [.ref a] ∧ SqL K H a (ns.map V.int) ∧ ns.length ≤ 63 ∧ ∀ H' d c, Same H H' → H d = none → StOk H' d c → Q (.ref d) H'
theorem ok_start {f : Addr} {fd : FuncData} {k : Nat} (B : Bl mg) (F : Fun K "_law_start" "_law_start" sStart f fd) : FnOk P w K mg base CX0 (k + 1) f fd ["_law_script"] (spStart K) := by
  refine F.ok scStart (fun vs H Q E h => ?_) (fun cdv A outer s H vs Q E hr h => ?_)
  · obtain ⟨a, ns, rfl, _⟩ := h
    rfl
  · obtain ⟨a, ns, rfl, hS, hl, q⟩ := h
    refine ⟨_, pss_one (ps_ret (pe_disp (pps_cons pe_str
        (pe_lc (own := [("_law_cell", 1)]) (g := gName 1) (tt := tYes) rfl scStart.nd (pi_list (pv 0)) (blkOk_by (N := ["_law_script", "_law_cell"]) (sc := defScope sStart) (by decide +kernel))
          (fun _ _ _ _ _ => pg_name (i := 1) scStart.nd rfl (Or.inl rfl)) (fun _ _ _ _ _ => pts_nil)
          (fun _ _ _ _ _ => pe_callB call_abs (by rfl) B.abs_ (by decide +kernel) (pa_cons (pe_callTy call_int1 (by rfl) B.int_ (by decide +kernel) (pa_cons (pv 1) pa_nil)) pa_nil)))
      (pps_cons pe_str pe_int (pps_cons pe_str pe_int (pps_cons pe_str (pe_op op_add pe_int (pe_callB call_len_seq (by rfl) B.len PySem.boot_len (pa_cons (pv 0) pa_nil))) pps_nil))))
      (by rfl) (by rfl) (fun z => by cases z) (by decide))), ?_⟩
    intro d nd
    have s1 : Same H (upd H d (.dK [])) := same_new nd
    -- the list of the cells
    refine ⟨.ref a, rfl, a, rfl, ⟨_, s1.seq hS⟩, fun D nD => ?_⟩
    have nDd : D ≠ d := fun e => by rw [e, upd_same] at nD; cases nD
    refine lc_list (K := K) (a := a) (xs := ns.map V.int) (fun i H2 => Same H H2 ∧ H2 d = some (.dK []) ∧ H2 D = some (.lst ((ns.take i).map fun x => V.int (if x < 0 then -x else x)))) ?_ ?_ ?_ ?_
    · refine ⟨s1.trans (same_new nD), ?_, upd_same⟩
      rw [upd_ne nDd.symm, upd_same]
    · rintro i H2 _ ⟨sm, _⟩
      exact sm.seq hS
    · rintro i x H2 hx ⟨sm, hd, hD⟩
      rw [List.getElem?_map] at hx
      cases hn : ns[i]? with
      | none => rw [hn] at hx; cases hx
      | some z =>
        rw [hn] at hx
        have ex : V.int z = x := Option.some.inj hx
        subst ex
        refine ⟨rfl, _, rfl, .inl ⟨z, rfl, z, rfl, ?_⟩⟩
        refine ⟨_, hD, ?_, ?_, ?_, ?_⟩
        · rw [List.length_map, List.length_take]
          exact small1000 (by omega)
        · intro b o e
          rw [upd_ne (ne_of_none e (?_ : H D = none))]
          · exact sm _ _ e
          · exact s1.free nD
        · rw [upd_ne nDd.symm]
          exact hd
        · rw [upd_same, List.take_add_one, hn, List.map_append]
          rfl
    · rintro H2 ⟨sm, hd, hD⟩
      have eL : (ns.map V.int).length = ns.length := List.length_map ..
      rw [eL, List.take_length] at hD
      refine ⟨.ref a, rfl, a, _, rfl, .inl (sm.seq hS), _, _, rfl, rfl, ?_⟩
      refine ⟨hd, stKvs D 0 0 (7 + (ns.length : Int)), ?_, by show 4 ≤ 15; decide, ?_⟩
      · rw [eL]
        rfl
      · refine q _ d D ?_ nd ⟨ns.map (fun x => if x < 0 then -x else x), 0, 0, 7 + (ns.length : Int), ?_, ?_, ?_, by omega, by omega, by omega, by omega⟩
        · intro b o e
          rw [upd_ne (ne_of_none e nd)]
          exact sm _ _ e
        · rw [st_new, upd_same]
        · rw [upd_ne nDd, hD, List.map_map]
          rfl
        · intro x hx
          obtain ⟨y, _, e⟩ := List.mem_map.mp hx
          rw [← e]
          split <;> omega
end
end K39
namespace K39
open PySem PySem.Spec PyProof.Rows L2
open C8 (tCut pss_cut)
section
variable {P : Program} {w : World} {K : PySem.W.Frag} {mg : Str → Option Value} {base : Heap}
/-! ### _law_draw -/
def spDraw : Sp := fun vs H Q _ => ∃ (d c : Addr) (b : Int), vs = [.ref d, .int b] ∧ StOk H d c ∧ 0 < b ∧ b ≤ 1000 ∧ ∀ H' n, SameBut d H H' → StOk H' d c → 0 ≤ n → n < b → Q (.int n) H'
theorem ok_draw {f : Addr} {fd : FuncData} {k : Nat} (B : Bl mg) (F : Fun K "_law_draw" "_law_draw" sDraw f fd) : FnOk P w K mg base CX0 (k + 1) f fd ["_law_state", "_law_bound"] spDraw := by
  refine F.ok scDraw (fun vs H Q E h => ?_) (fun cdv A outer s H vs Q E hr h => ?_)
  · obtain ⟨d, c, b, rfl, _⟩ := h
    rfl
  · obtain ⟨d, c, b, rfl, hst, hb0, hb1, q⟩ := h
    have hu := hu_of hr
    refine ⟨_, pss_cut (ps_if (PW.pt (pw_and (pt_cmpR op_eq (pe_dget hu (pv 0) pe_str (fun _ _ => rfl)) pe_int (nomark _))
          (pw_and1 (pt_cmpR op_lt (pe_dget hu (pv 0) pe_str (fun _ _ => rfl)) (pe_callB call_len_seq (by rfl) B.len PySem.boot_len (pa_cons (pe_dget hu (pv 0) pe_str (fun _ _ => rfl)) pa_nil)) (nomark _)))))
        (pss_cons (ps_set (i := 2) scDraw.nd rfl (.inl rfl) (pe_ix ix_list (pe_dget hu (pv 0) pe_str (fun _ _ => rfl)) (pe_dget hu (pv 0) pe_str (fun _ _ => rfl)) (fun _ _ => rfl)))
        (pss_cons (ps_dput hu (pv 0) pe_str (pe_op op_add (pe_dget hu (pv 0) pe_str (fun _ _ => rfl)) pe_int) rfl)
        (pss_cons (ps_dput hu (pv 0) pe_str (pe_op op_mod (pe_callTy call_int1 (by rfl) B.int_ (by decide +kernel) (pa_cons (pe_op op_add (pe_op op_add (pe_op op_mul (pe_dget hu (pv 0) pe_str (fun _ _ => rfl)) pe_int) (pv 2)) pe_int) pa_nil)) pe_int) rfl)
        (pss_cons (ps_if (pt_cmpR op_lt (pv 2) (pe_op op_pow pe_int pe_int) (nomark _)) (pss_one (ps_ret (pe_op op_mod (pe_callTy call_int1 (by rfl) B.int_ (by decide +kernel) (pa_cons (pv 2) pa_nil)) (pv 1)))) pss_nil)
        (pss_one (ps_dput hu (pv 0) pe_str (pv 2) rfl)))))) pss_nil)
      (pss_cons (ps_if (pt_cmpR op_gt (pe_dget hu (pv 0) pe_str (fun _ _ => rfl)) pe_int (nomark _))
        (pss_cons (ps_set (i := 3) scDraw.nd rfl (.inl rfl) (pe_op op_mod (pe_callTy call_int1 (by rfl) B.int_ (by decide +kernel) (pa_cons (pe_dget hu (pv 0) pe_str (fun _ _ => rfl)) pa_nil)) (pv 1)))
        (pss_cons (ps_dput hu (pv 0) pe_str (pe_op op_fdiv (pe_dget hu (pv 0) pe_str (fun _ _ => rfl)) (pv 1)) rfl)
        (pss_one (ps_ret (pv 3))))) pss_nil)
      (pss_cons (ps_dput hu (pv 0) pe_str (pe_op op_mod (pe_callTy call_int1 (by rfl) B.int_ (by decide +kernel) (pa_cons (pe_op op_add (pe_op op_mul (pe_dget hu (pv 0) pe_str (fun _ _ => rfl)) pe_int) pe_int) pa_nil)) pe_int) rfl)
      (pss_one (ps_ret (pe_op op_mod (pe_callTy call_int1 (by rfl) B.int_ (by decide +kernel) (pa_cons (pe_op op_mod (pe_callTy call_int1 (by rfl) B.int_ (by decide +kernel) (pa_cons (pe_op op_add (pe_op op_mul (pe_dget hu (pv 0) pe_str (fun _ _ => rfl)) pe_int) pe_int) pa_nil)) pe_int) pa_nil)) (pv 1)))))), ?_⟩
    refine ⟨fun σ H1 => ∃ y2, σ = [some (.ref d), some (.int b), y2, none] ∧ StOk H1 d c ∧ SameBut d H H1, ?_, ?_⟩
    · obtain ⟨cells, at_, left, mix, S⟩ := hst
      have D0 := DGet.k (k := Sum.inr "left") S.dict
      rw [st_left] at D0
      refine ⟨_, rfl, d, _, rfl, D0, rfl, _, rfl, ite2 (fun e => ?_) (fun e => ?_)⟩
      rotate_left
      · exact ⟨none, rfl, ⟨cells, at_, left, mix, S⟩, SameBut.refl d H⟩
      have D1 := DGet.k (k := Sum.inr "at") S.dict
      rw [st_at] at D1
      have D2 := DGet.k (k := Sum.inr "cells") S.dict
      rw [st_cells] at D2
      refine ⟨_, rfl, d, _, rfl, D1, _, rfl, d, _, rfl, D2, c, _, rfl, .inl (.inl (.inl S.lst)), _, _, rfl, rfl, _, rfl, ite2 (fun e2 => ?_) (fun e2 => ?_)⟩
      rotate_left
      · exact ⟨none, rfl, ⟨cells, at_, left, mix, S⟩, SameBut.refl d H⟩
      have e3 : at_ < ((cells.map V.int).length : Int) := of_decide_eq_true e2
      rw [List.length_map] at e3
      have hlt : at_.toNat < cells.length := by have := S.a0; omega
      have hx0 : 0 ≤ cells[at_.toNat] := S.nn _ (List.getElem_mem hlt)
      generalize hx : cells[at_.toNat] = x at hx0
      have ha : atI (cells.map V.int) at_ = some (.int x) := by
        refine at_of (j := at_.toNat) (by have := S.a0; omega) ?_
        rw [List.getElem?_map, List.getElem?_eq_getElem hlt, hx]
        rfl
      -- cell = cells[at]
      refine ⟨_, rfl, d, _, rfl, D2, _, rfl, d, _, rfl, D1, c, _, _, _, rfl, rfl, .inl (.inl S.lst), ha, ?_⟩
      -- at = at + 1
      refine ⟨_, rfl, d, _, rfl, D1, _, _, rfl, rfl, _, rfl, d, _, rfl, DPut.k (k := Sum.inr "at") S.dict (small1000 (by show 4 ≤ 1000; decide)), ?_⟩
      rw [put_at]
      have S1 := S.put (a' := at_ + 1) (by have := S.a0; omega) S.l0 S.m0 S.m1
      generalize hH1 : upd H d (.dK (stKvs c (at_ + 1) left mix)) = H1 at S1
      have b1 : SameBut d H H1 := by rw [← hH1]; exact SameBut.put
      -- mix = ..
      have D3 := DGet.k (k := Sum.inr "mix") S1.dict
      rw [st_mix] at D3
      refine ⟨_, rfl, d, _, rfl, D3, _, _, rfl, rfl, .inr ⟨by decide, by decide⟩, .int x, rfl, _, _, rfl, rfl, _, _, rfl, rfl, .inl ⟨_, rfl, _, _, rfl, rfl, by show (0 : Int) < 2147483647; decide, ?_⟩⟩
      refine ⟨_, rfl, d, _, rfl, DPut.k (k := Sum.inr "mix") S1.dict (small1000 (by show 4 ≤ 1000; decide)), ?_⟩
      rw [put_mix]
      have S2 := S1.put (m' := (mix * 48271 + x + 11) % 2147483647) S1.a0 S1.l0 (by omega) (by omega)
      generalize hH2 : upd H1 d (.dK (stKvs c (at_ + 1) left ((mix * 48271 + x + 11) % 2147483647))) = H2 at S2
      have b2 : SameBut d H H2 := by rw [← hH2]; exact b1.trans SameBut.put
      -- if cell < 10 ** 18
      refine ⟨.int x, rfl, _, _, rfl, rfl, ⟨by decide, by decide, by decide⟩, _, _, rfl, rfl, _, rfl, ite2 (fun e4 => ?_) (fun e4 => ?_)⟩
      · refine ⟨.int x, rfl, .inl ⟨x, rfl, _, rfl, _, _, rfl, rfl, hb0, ?_⟩⟩
        exact q H2 _ b2 ⟨_, _, _, _, S2⟩ (Int.emod_nonneg _ (by omega)) (Int.emod_lt_of_pos _ hb0)
      · refine ⟨.int x, rfl, _, rfl, d, _, rfl, DPut.k (k := Sum.inr "left") S2.dict (small1000 (by show 4 ≤ 1000; decide)), ?_⟩
        rw [put_left]
        have S3 := S2.put (l' := x) S2.a0 hx0 S2.m0 S2.m1
        exact ⟨_, rfl, ⟨_, _, _, _, S3⟩, b2.trans SameBut.put⟩
    · rintro σ' H1 ⟨y2, rfl, ⟨cells, at_, left, mix, S⟩, b1⟩
      have D0 := DGet.k (k := Sum.inr "left") S.dict
      rw [st_left] at D0
      refine ⟨_, rfl, d, _, rfl, D0, _, _, rfl, rfl, _, rfl, ite2 (fun e => ?_) (fun e => ?_)⟩
      · have hl : 0 < left := of_decide_eq_true e
        refine ⟨_, rfl, d, _, rfl, D0, .inl ⟨left, rfl, _, rfl, _, _, rfl, rfl, hb0, ?_⟩⟩
        refine ⟨_, rfl, d, _, rfl, D0, _, rfl, _, _, rfl, rfl, ⟨hb0, by omega⟩, _, rfl, d, _, rfl, DPut.k (k := Sum.inr "left") S.dict (small1000 (by show 4 ≤ 1000; decide)), ?_⟩
        rw [put_left]
        have S3 := S.put (l' := left / b) S.a0 (Int.ediv_nonneg S.l0 (by omega)) S.m0 S.m1
        refine ⟨_, rfl, ?_⟩
        exact q _ _ (b1.trans SameBut.put) ⟨_, _, _, _, S3⟩ (Int.emod_nonneg _ (by omega)) (Int.emod_lt_of_pos _ hb0)
      · have D3 := DGet.k (k := Sum.inr "mix") S.dict
        rw [st_mix] at D3
        refine ⟨_, rfl, d, _, rfl, D3, _, _, rfl, rfl, .inr ⟨by decide, by decide⟩, _, _, rfl, rfl, .inl ⟨_, rfl, _, _, rfl, rfl, by show (0 : Int) < 2147483647; decide, ?_⟩⟩
        refine ⟨_, rfl, d, _, rfl, DPut.k (k := Sum.inr "mix") S.dict (small1000 (by show 4 ≤ 1000; decide)), ?_⟩
        rw [put_mix]
        have S2 := S.put (m' := (mix * 48271 + 11) % 2147483647) S.a0 S.l0 (by omega) (by omega)
        generalize hH2 : upd H1 d (.dK (stKvs c at_ left ((mix * 48271 + 11) % 2147483647))) = H2 at S2
        have b2 : SameBut d H H2 := by rw [← hH2]; exact b1.trans SameBut.put
        generalize hm : (mix * 48271 + 11) % 2147483647 = mix2 at S2
        have D4 := DGet.k (k := Sum.inr "mix") S2.dict
        rw [st_mix] at D4
        refine ⟨_, rfl, d, _, rfl, D4, _, _, rfl, rfl, .inr ⟨by decide, by decide⟩, _, _, rfl, rfl, .inl ⟨_, rfl, _, _, rfl, rfl, by show (0 : Int) < 2147483629; decide, .inl ⟨_, rfl, _, rfl, _, _, rfl, rfl, hb0, ?_⟩⟩⟩
        exact q H2 _ b2 ⟨_, _, _, _, S2⟩ (Int.emod_nonneg _ (by omega)) (Int.emod_lt_of_pos _ hb0)
end
end K39
namespace K39
open PySem PySem.Spec PyProof.Rows L2
open C8 (tCut pss_cut)
theorem SameBut.at {d c : Addr} {H H' : Hp} (s : SameBut d H H') {l : Addr} {xs : List V} (hd : StOk H d c) (hl : H l = some (.lst xs)) : H' l = some (.lst xs) := by
  obtain ⟨cells, at_, left, mix, S⟩ := hd
  exact s _ _ (ne_of hl S.dict (by intro z; cases z)) hl
theorem SameBut.tup {d c : Addr} {H H' : Hp} (s : SameBut d H H') {l : Addr} {xs : List V} (hd : StOk H d c) (hl : H l = some (.tup xs)) : H' l = some (.tup xs) := by
  obtain ⟨cells, at_, left, mix, S⟩ := hd
  exact s _ _ (ne_of hl S.dict (by intro z; cases z)) hl
theorem StOk.away {H : Hp} {d c l : Addr} {o : HO} (hd : StOk H d c) (h1 : l ≠ d) (h2 : l ≠ c) : StOk (upd H l o) d c := by
  obtain ⟨cells, at_, left, mix, S⟩ := hd
  exact ⟨cells, at_, left, mix, by rw [upd_ne h1.symm]; exact S.dict, by rw [upd_ne h2.symm]; exact S.lst, S.nn, S.a0, S.l0, S.m0, S.m1⟩
theorem StOk.new {H : Hp} {d c l : Addr} (hd : StOk H d c) (n : H l = none) : l ≠ d ∧ l ≠ c := by
  obtain ⟨cells, at_, left, mix, S⟩ := hd
  exact ⟨(ne_of_none S.dict n).symm, (ne_of_none S.lst n).symm⟩
theorem SameBut.away {d l : Addr} {H0 H : Hp} {o : HO} (s : SameBut d H0 H) (n : H0 l = none) : SameBut d H0 (upd H l o) := fun b x nb e => by
  rw [upd_ne (ne_of_none e n)]
  exact s b x nb e
section
variable {P : Program} {w : World} {K : PySem.W.Frag} {mg : Str → Option Value} {base : Heap}
/-! ### _law_pick -/
def spPick : Sp := fun vs H Q _ => ∃ (d c l : Addr) (ns : List Int), vs = [.ref d, .ref l] ∧ StOk H d c ∧ H l = some (.lst (ns.map V.int)) ∧ 0 < ns.length ∧ ns.length ≤ 1000 ∧
  ∀ H' n, SameBut d H H' → StOk H' d c → n ∈ ns → Q (.int n) H'
theorem ok_pick {f fD : Addr} {fd fdD : FuncData} (B : Bl mg) (F : Fun K "_law_pick" "_law_pick" sPick f fd) (FD : Fun K "_law_draw" "_law_draw" sDraw fD fdD) (bD : Binds K fdD ["_law_state", "_law_bound"] []) (gD : mg "_law_draw" = some (.ref fD)) :
    FnOk P w K mg base CX0 2 f fd ["_law_state", "_law_things"] spPick := by
  have GD : FnOk P w K mg base CX0 1 fD fdD ["_law_state", "_law_bound"] spDraw := ok_draw B FD
  refine F.ok scPick (fun vs H Q E h => ?_) (fun cdv A outer s H vs Q E hr h => ?_)
  · obtain ⟨d, c, l, ns, rfl, _⟩ := h
    rfl
  · obtain ⟨d, c, l, ns, rfl, hst, hl, h0, h1, q⟩ := h
    refine ⟨_, pss_one (ps_ret (pe_ix ix_list (pv 1) (pe_call GD hr (by rfl) gD FD.kp bD .nil pass0 (pa_cons (pv 0) (pa_cons (pe_callB call_len_seq (by rfl) B.len PySem.boot_len (pa_cons (pv 1) pa_nil)) pa_nil))) (fun _ _ => rfl))), ?_⟩
    refine ⟨_, rfl, _, rfl, _, rfl, l, _, rfl, .inl (.inl (.inl hl)), d, c, _, rfl, hst, ?_, ?_, fun H' n sb st n0 n1 => ?_⟩
    · rw [List.length_map]; omega
    · rw [List.length_map]; omega
    · rw [List.length_map] at n1
      have hlt : n.toNat < ns.length := by omega
      refine ⟨l, _, _, .int ns[n.toNat], rfl, rfl, .inl (.inl (sb.at hst hl)), at_of (j := n.toNat) (by omega) ?_, ?_⟩
      · rw [List.getElem?_map, List.getElem?_eq_getElem hlt]
        rfl
      · exact q H' _ sb st (List.getElem_mem hlt)
/-! ### _law_spoilt -/
def spSpoilt : Sp := fun vs H Q _ => ∃ (d c t : Addr) (ns : List Int), vs = [.ref d, .ref t] ∧ StOk H d c ∧ H t = some (.tup (ns.map V.int)) ∧ ns.length ≤ 20 ∧
  ∀ (H' : Hp) (p : Addr) (ms : List Int), SameBut d H H' → StOk H' d c → H' p = some (.tup (ms.map V.int)) → ms.length ≤ 21 → Q (.ref p) H'
/-- between the turns of _law_spoilt -/
def MidS (d c l : Addr) (n0 : Nat) (H : Hp) (σ : L2.St) (H1 : Hp) : Prop :=
  ∃ (at_ kind : Int) (ms : List Int), σ = [some (.ref d), some (.ref l), some (.int at_), some (.int kind)] ∧ 0 ≤ at_ ∧ at_ ≤ 20 ∧ StOk H1 d c ∧ H1 l = some (.lst (ms.map V.int)) ∧ ms.length ≤ n0 ∧ SameBut d H H1
theorem MidS.le {d c l : Addr} {n0 n1 : Nat} {H H1 : Hp} {σ : L2.St} (h : MidS d c l n0 H σ H1) (e : n0 ≤ n1) : MidS d c l n1 H σ H1 := by
  obtain ⟨at_, kind, ms, h1, h2, h3, h4, h5, h6, h7⟩ := h
  exact ⟨at_, kind, ms, h1, h2, h3, h4, h5, by omega, h7⟩
theorem ok_spoilt {f fD : Addr} {fd fdD : FuncData} (B : Bl mg) (F : Fun K "_law_spoilt" "_law_spoilt" sSpoilt f fd) (FD : Fun K "_law_draw" "_law_draw" sDraw fD fdD) (bD : Binds K fdD ["_law_state", "_law_bound"] []) (gD : mg "_law_draw" = some (.ref fD)) :
    FnOk P w K mg base CX0 2 f fd ["_law_state", "_law_numbers"] spSpoilt := by
  have GD : FnOk P w K mg base CX0 1 fD fdD ["_law_state", "_law_bound"] spDraw := ok_draw B FD
  refine F.ok scSpoilt (fun vs H Q E h => ?_) (fun cdv A outer s H vs Q E hr h => ?_)
  · obtain ⟨d, c, t, ns, rfl, _⟩ := h
    rfl
  · obtain ⟨d, c, t, ns, rfl, hst, ht, hlen, q⟩ := h
    have hz : sizeLine = 16777216 := sizeLine_eq
    refine ⟨_, pss_cons (ps_set (i := 1) scSpoilt.nd rfl (.inl rfl) (pe_callTy call_list_of (by rfl) B.list (by decide +kernel) (pa_cons (pv 1) pa_nil)))
      (pss_cons (ps_set (i := 2) scSpoilt.nd rfl (.inl rfl) (pe_call GD hr (by rfl) gD FD.kp bD .nil pass0 (pa_cons (pv 0) (pa_cons (pe_op op_add (pe_callB call_len_seq (by rfl) B.len PySem.boot_len (pa_cons (pv 1) pa_nil)) pe_int) pa_nil))))
      (pss_cons (ps_set (i := 3) scSpoilt.nd rfl (.inl rfl) (pe_call GD hr (by rfl) gD FD.kp bD .nil pass0 (pa_cons (pv 0) (pa_cons pe_int pa_nil))))
      (pss_cut (ps_if (pt_cmpR op_eq (pv 3) pe_int (nomark _)) (pss_one (ps_expr (pe_bm PySem.F.plainAttrs_list PySem.F.slot_list_insert PySem.F.type_list_insert mt_insert (pv 1) (pa_cons (pv 2) (pa_cons (pe_call GD hr (by rfl) gD FD.kp bD .nil pass0 (pa_cons (pv 0) (pa_cons pe_int pa_nil))) pa_nil))))) pss_nil)
      (pss_cut (ps_if (PW.pt (pw_and (pt_cmpR op_eq (pv 3) pe_int (nomark _)) (pw_and1 (pt_cmpR op_lt (pv 2) (pe_callB call_len_seq (by rfl) B.len PySem.boot_len (pa_cons (pv 1) pa_nil)) (nomark _)))))
        (pss_one (ps_asg (pe_op op_sub (pe_op op_add (pe_ix ix_list (pv 1) (pv 2) (fun _ _ => rfl)) (pe_call GD hr (by rfl) gD FD.kp bD .nil pass0 (pa_cons (pv 0) (pa_cons pe_int pa_nil)))) pe_int) (pg_sub (pv 1) (pv 2) set_list))) pss_nil)
      (pss_cut (ps_if (PW.pt (pw_and (pt_cmpR op_eq (pv 3) pe_int (nomark _)) (pw_and1 (pt_cmpR op_lt (pv 2) (pe_callB call_len_seq (by rfl) B.len PySem.boot_len (pa_cons (pv 1) pa_nil)) (nomark _)))))
        (pss_one (ps_expr (pe_bm PySem.F.plainAttrs_list PySem.F.slot_list_append PySem.F.type_list_append mt_append (pv 1) (pa_cons (pe_bm PySem.F.plainAttrs_list PySem.F.slot_list_pop PySem.F.type_list_pop mt_popAt (pv 1) (pa_cons (pv 2) pa_nil)) pa_nil)))) pss_nil)
      (pss_cut (ps_if (PW.pt (pw_and (pt_cmpR op_eq (pv 3) pe_int (nomark _)) (pw_and1 (pt_cmpR op_lt (pv 2) (pe_callB call_len_seq (by rfl) B.len PySem.boot_len (pa_cons (pv 1) pa_nil)) (nomark _)))))
        (pss_one (ps_expr (pe_bm PySem.F.plainAttrs_list PySem.F.slot_list_pop PySem.F.type_list_pop mt_popAt (pv 1) (pa_cons (pv 2) pa_nil)))) pss_nil)
      (pss_one (ps_ret (pe_callTy call_tuple_of (by rfl) B.tuple (by decide +kernel) (pa_cons (pv 1) pa_nil)))))))))), ?_⟩
    -- the list, the place, the kind
    refine ⟨.ref t, rfl, t, _, rfl, .inr (.inl (.inl ht)), fun l nl => ?_⟩
    obtain ⟨nld, nlc⟩ := hst.new nl
    have st0 : StOk (upd H l (.lst (ns.map V.int))) d c := hst.away nld nlc
    refine ⟨.ref d, rfl, .ref l, rfl, l, _, rfl, .inl (.inl (.inl upd_same)), _, _, rfl, rfl, d, c, _, rfl, st0, ?_, ?_, fun H1 at_ sb1 st1 a0 a1 => ?_⟩
    · rw [List.length_map]; omega
    · rw [List.length_map]; omega
    rw [List.length_map] at a1
    have hl1 : H1 l = some (.lst (ns.map V.int)) := sb1.at st0 upd_same
    have c1 : SameBut d H H1 := fun b x nb e => sb1 b x nb (by rw [upd_ne (ne_of_none e nl)]; exact e)
    refine ⟨.ref d, rfl, d, c, _, rfl, st1, by decide, by decide, fun H2 kind sb2 st2 k0 k1 => ?_⟩
    have hl2 : H2 l = some (.lst (ns.map V.int)) := sb2.at st1 hl1
    have c2 : SameBut d H H2 := c1.trans sb2
    have m0 : MidS d c l 20 H [some (.ref d), some (.ref l), some (.int at_), some (.int kind)] H2 := ⟨at_, kind, ns, rfl, a0, by omega, st2, hl2, hlen, c2⟩
    -- insert
    refine ⟨MidS d c l 21 H, ?_, ?_⟩
    · refine ⟨_, rfl, rfl, _, rfl, ite2 (fun e => ?_) (fun e => m0.le (by omega))⟩
      refine ⟨.ref l, rfl, .inl ⟨rfl, _, .inl (.inl hl2)⟩, .int at_, rfl, .ref d, rfl, d, c, _, rfl, st2, by decide, by decide, fun H3 y sb3 st3 y0 y1 => ?_⟩
      refine ⟨l, ns.map V.int, at_, .int y, rfl, rfl, sb3.at st2 hl2, ?_, a0, by omega, ?_⟩
      · rw [List.length_map]; omega
      · refine ⟨at_, kind, ns.take at_.toNat ++ [y] ++ ns.drop at_.toNat, rfl, a0, by omega, st3.away nld nlc, ?_, ?_, (c2.trans sb3).away nl⟩
        · rw [upd_same]
          simp [List.map_take, List.map_drop]
        · simp only [List.length_append, List.length_take, List.length_drop, List.length_singleton]
          omega
    rintro σ H3 ⟨at_, kind, ms, rfl, a0, a1, st3, hl3, hn3, c3⟩
    have m3 : MidS d c l 21 H [some (.ref d), some (.ref l), some (.int at_), some (.int kind)] H3 := ⟨at_, kind, ms, rfl, a0, a1, st3, hl3, hn3, c3⟩
    clear m0 hl2 c2 st2 sb2 hl1 c1 k0 k1
    -- one changed
    refine ⟨MidS d c l 21 H, ?_, ?_⟩
    · refine ⟨_, rfl, rfl, _, rfl, ite2 (fun e => ?_) (fun e => m3)⟩
      refine ⟨.int at_, rfl, .ref l, rfl, l, _, rfl, .inl (.inl (.inl hl3)), _, _, rfl, rfl, _, rfl, ite2 (fun e2 => ?_) (fun e2 => m3)⟩
      have e3 : at_ < ((ms.map V.int).length : Int) := of_decide_eq_true e2
      rw [List.length_map] at e3
      have hlt : at_.toNat < ms.length := by omega
      have ha : atI (ms.map V.int) at_ = some (.int ms[at_.toNat]) := by
        refine at_of (j := at_.toNat) (by omega) ?_
        rw [List.getElem?_map, List.getElem?_eq_getElem hlt]
        rfl
      refine ⟨.ref l, rfl, .int at_, rfl, l, _, _, _, rfl, rfl, .inl (.inl hl3), ha, .ref d, rfl, d, c, _, rfl, st3, by decide, by decide, fun H4 y sb4 st4 y0 y1 => ?_⟩
      refine ⟨_, _, rfl, rfl, _, _, rfl, rfl, .ref l, rfl, .int at_, rfl, l, ms.map V.int, at_, at_.toNat, rfl, rfl, sb4.at st3 hl3, ?_, ?_⟩
      · unfold ixN
        rw [List.length_map, if_pos a0, if_pos e3]
      · refine ⟨at_, kind, ms.set at_.toNat (ms[at_.toNat] + y - 2), rfl, a0, a1, st4.away nld nlc, ?_, ?_, (c3.trans sb4).away nl⟩
        · rw [upd_same, List.map_set]
        · rw [List.length_set]; exact hn3
    clear m3 hl3 hn3 c3 st3
    rintro σ H3 ⟨at_, kind, ms, rfl, a0, a1, st3, hl3, hn3, c3⟩
    have m3 : MidS d c l 21 H [some (.ref d), some (.ref l), some (.int at_), some (.int kind)] H3 := ⟨at_, kind, ms, rfl, a0, a1, st3, hl3, hn3, c3⟩
    -- one to the end
    refine ⟨MidS d c l 21 H, ?_, ?_⟩
    · refine ⟨_, rfl, rfl, _, rfl, ite2 (fun e => ?_) (fun e => m3)⟩
      refine ⟨.int at_, rfl, .ref l, rfl, l, _, rfl, .inl (.inl (.inl hl3)), _, _, rfl, rfl, _, rfl, ite2 (fun e2 => ?_) (fun e2 => m3)⟩
      have e3 : at_ < ((ms.map V.int).length : Int) := of_decide_eq_true e2
      rw [List.length_map] at e3
      have hlt : at_.toNat < ms.length := by omega
      refine ⟨.ref l, rfl, .inl ⟨rfl, _, .inl (.inl hl3)⟩, .ref l, rfl, .inl ⟨rfl, _, .inl (.inl hl3)⟩, .int at_, rfl, l, ms.map V.int, at_, at_.toNat, .int ms[at_.toNat], rfl, rfl, hl3, by omega, by omega, ?_, ?_, ?_⟩
      · rw [List.length_map]
        exact (ixN_seq (by unfold ixN; rw [if_pos a0, if_pos e3])).1
      · rw [List.getElem?_map, List.getElem?_eq_getElem hlt]
        rfl
      · refine ⟨l, _, _, rfl, rfl, upd_same, ?_, ?_⟩
        · rw [List.length_eraseIdx, List.length_map]
          split <;> omega
        · refine ⟨at_, kind, ms.eraseIdx at_.toNat ++ [ms[at_.toNat]], rfl, a0, a1, (st3.away nld nlc).away nld nlc, ?_, ?_, (c3.away nl).away nl⟩
          · rw [upd_same, List.map_append, erase_mapI]
            rfl
          · rw [List.length_append, List.length_eraseIdx, if_pos hlt]
            show ms.length - 1 + 1 ≤ 21
            omega
    clear m3 hl3 hn3 c3 st3
    rintro σ H3 ⟨at_, kind, ms, rfl, a0, a1, st3, hl3, hn3, c3⟩
    have m3 : MidS d c l 21 H [some (.ref d), some (.ref l), some (.int at_), some (.int kind)] H3 := ⟨at_, kind, ms, rfl, a0, a1, st3, hl3, hn3, c3⟩
    -- one left out
    refine ⟨MidS d c l 21 H, ?_, ?_⟩
    · refine ⟨_, rfl, rfl, _, rfl, ite2 (fun e => ?_) (fun e => m3)⟩
      refine ⟨.int at_, rfl, .ref l, rfl, l, _, rfl, .inl (.inl (.inl hl3)), _, _, rfl, rfl, _, rfl, ite2 (fun e2 => ?_) (fun e2 => m3)⟩
      have e3 : at_ < ((ms.map V.int).length : Int) := of_decide_eq_true e2
      rw [List.length_map] at e3
      have hlt : at_.toNat < ms.length := by omega
      refine ⟨.ref l, rfl, .inl ⟨rfl, _, .inl (.inl hl3)⟩, .int at_, rfl, l, ms.map V.int, at_, at_.toNat, .int ms[at_.toNat], rfl, rfl, hl3, by omega, by omega, ?_, ?_, ?_⟩
      · rw [List.length_map]
        exact (ixN_seq (by unfold ixN; rw [if_pos a0, if_pos e3])).1
      · rw [List.getElem?_map, List.getElem?_eq_getElem hlt]
        rfl
      · refine ⟨at_, kind, ms.eraseIdx at_.toNat, rfl, a0, a1, st3.away nld nlc, ?_, ?_, c3.away nl⟩
        · rw [upd_same, erase_mapI]
        · rw [List.length_eraseIdx, if_pos hlt]
          omega
    clear m3 hl3 hn3 c3 st3
    rintro σ H3 ⟨at_, kind, ms, rfl, a0, a1, st3, hl3, hn3, c3⟩
    -- tuple(numbers)
    refine ⟨.ref l, rfl, l, _, rfl, .inl ⟨.inl (.inl hl3), fun p np => ?_⟩⟩
    obtain ⟨n1, n2⟩ := st3.new np
    refine q _ p ms ?_ (st3.away n1 n2) upd_same hn3
    intro b x nb e
    have hb := c3 b x nb e
    rw [upd_ne (ne_of_none hb np)]
    exact hb
end
end K39
set_option autoImplicit false
namespace K39
open PySem PySem.Spec PyProof.Rows L2
open C8 (tCut pss_cut)
/-! ### lists of pairs of ints -/
abbrev tupO (p : Int × Int) : HO := .tup [.int p.1, .int p.2]
structure PLs (H : Hp) (xs : List V) (ps : List (Int × Int)) : Prop where
  len : xs.length = ps.length
  get : ∀ (i : Nat) (p : Int × Int), ps[i]? = some p → ∃ t, xs[i]? = some (V.ref t) ∧ H t = some (tupO p)
theorem PLs.nil {H : Hp} : PLs H [] [] := ⟨rfl, fun i p h => by simp at h⟩
theorem PLs.mono {H H' : Hp} {xs : List V} {ps : List (Int × Int)} (h : PLs H xs ps) (s : ∀ t p, H t = some (tupO p) → H' t = some (tupO p)) : PLs H' xs ps := by
  refine ⟨h.len, fun i p e => ?_⟩
  obtain ⟨t, h1, h2⟩ := h.get i p e
  exact ⟨t, h1, s t p h2⟩
theorem PLs.same {H H' : Hp} {xs : List V} {ps : List (Int × Int)} (h : PLs H xs ps) (s : Same H H') : PLs H' xs ps := h.mono fun t p e => s _ _ e
theorem PLs.put {H : Hp} {xs : List V} {ps : List (Int × Int)} {D : Addr} {acc : List V} {o : HO} (h : PLs H xs ps) (e : H D = some (.lst acc)) : PLs (upd H D o) xs ps := h.mono fun t p q => by
  rw [upd_ne (ne_of q e (by intro z; cases z))]
  exact q
theorem PLs.snoc {H : Hp} {xs : List V} {ps : List (Int × Int)} {t : Addr} {p : Int × Int} (h : PLs H xs ps) (e : H t = some (tupO p)) : PLs H (xs ++ [.ref t]) (ps ++ [p]) := by
  refine ⟨by rw [List.length_append, List.length_append, h.len]; rfl, fun i q hq => ?_⟩
  by_cases hi : i < ps.length
  · rw [List.getElem?_append_left hi] at hq
    obtain ⟨u, h1, h2⟩ := h.get i q hq
    exact ⟨u, by rw [List.getElem?_append_left (by rw [h.len]; exact hi)]; exact h1, h2⟩
  · rw [List.getElem?_append_right (by omega)] at hq
    have hi2 : i - ps.length = 0 := by
      rcases Nat.eq_zero_or_pos (i - ps.length) with z | z
      · exact z
      · rw [List.getElem?_eq_none (by show 1 ≤ _; omega)] at hq
        cases hq
    rw [hi2] at hq
    have eq : p = q := Option.some.inj hq
    subst eq
    refine ⟨t, ?_, e⟩
    rw [List.getElem?_append_right (by rw [h.len]; omega), h.len, hi2]
    rfl
theorem PLs.at {H : Hp} {xs : List V} {ps : List (Int × Int)} (h : PLs H xs ps) {i : Nat} (hi : i < ps.length) : ∃ t, xs[i]? = some (V.ref t) ∧ H t = some (tupO (wAt ps i)) := by
  refine h.get i (wAt ps i) ?_
  unfold wAt
  rw [List.getD_eq_getElem?_getD, List.getElem?_eq_getElem hi]
  rfl
/-- what pair a value is, in the heap H -/
def pairAt (H : Hp) (x : V) : Int × Int := match x with
  | .ref t => match H t with
    | some (.tup [.int i, .int j]) => (i, j)
    | _ => (0, 0)
  | _ => (0, 0)
theorem pairAt_of {H : Hp} {t : Addr} {p : Int × Int} (e : H t = some (tupO p)) : pairAt H (.ref t) = p := by
  unfold pairAt
  simp only [e]
theorem PLs.map {H : Hp} {xs : List V} {ps : List (Int × Int)} (h : PLs H xs ps) : xs.map (pairAt H) = ps := by
  refine List.ext_getElem? fun i => ?_
  rw [List.getElem?_map]
  cases hp : ps[i]? with
  | none =>
    have : xs.length ≤ i := by rw [h.len]; exact List.getElem?_eq_none_iff.mp hp
    rw [List.getElem?_eq_none this]
    rfl
  | some p =>
    obtain ⟨t, h1, h2⟩ := h.get i p hp
    rw [h1]
    exact congrArg some (pairAt_of h2)
theorem PLs.mem {H : Hp} {xs : List V} {ps : List (Int × Int)} (h : PLs H xs ps) {x : V} (hx : x ∈ xs) : ∃ t, x = .ref t ∧ H t = some (tupO (pairAt H x)) := by
  obtain ⟨i, hi, e⟩ := List.mem_iff_getElem.mp hx
  have hp : i < ps.length := by rw [← h.len]; exact hi
  obtain ⟨t, h1, h2⟩ := h.at hp
  rw [List.getElem?_eq_getElem hi, e] at h1
  have h1 := Option.some.inj h1
  refine ⟨t, h1, ?_⟩
  rw [h1, pairAt_of h2]
  exact h2
/-- the sorted list's pairs -/
theorem PLs.sorted {H : Hp} {xs ys : List V} {ps : List (Int × Int)} (h : PLs H xs ps) (h1 : SrtO.Srtd (ltP (pairAt H)) ys) (h2 : SrtO.Stb (ltP (pairAt H)) ys xs) :
    PLs H ys (ys.map (pairAt H)) ∧ (ys.map (pairAt H)).Perm ps ∧ (ys.map (pairAt H)).Pairwise leP := by
  refine ⟨⟨by rw [List.length_map], fun i p e => ?_⟩, ?_, ?_⟩
  · rw [List.getElem?_map] at e
    cases hy : ys[i]? with
    | none => rw [hy] at e; cases e
    | some y =>
      rw [hy] at e
      have e : pairAt H y = p := Option.some.inj e
      obtain ⟨t, e1, e2⟩ := h.mem (h2.perm.mem_iff.mp (List.mem_of_getElem? hy))
      exact ⟨t, by rw [e1], by rw [← e]; exact e2⟩
  · have q := h2.perm.map (pairAt H)
    rw [h.map] at q
    exact q
  · refine List.Pairwise.map _ (fun a b e => ?_) h1
    have q := SrtO.lexB_no.mp e
    unfold leP
    omega
theorem sorted_all {H : Hp} {xs : List V} {ps : List (Int × Int)} (h : PLs H xs ps) : ∀ x ∈ xs, ∃ t, x = V.ref t ∧ H t = some (.tup [.int (pairAt H x).1, .int (pairAt H x).2]) := fun x hx => h.mem hx
theorem same_away {H0 H : Hp} {l : Addr} {o : HO} (s : Same H0 H) (n : H0 l = none) : Same H0 (upd H l o) := fun b x e => by
  rw [upd_ne (ne_of_none e n)]
  exact s b x e
/-- the windows as they stand: a list of pairs -/
def Wn (H : Hp) (a : Addr) (ws : List Wd) : Prop := ∃ xs, H a = some (.lst xs) ∧ PLs H xs ws
theorem Wn.same {H H' : Hp} {a : Addr} {ws : List Wd} (h : Wn H a ws) (s : Same H H') : Wn H' a ws := by
  obtain ⟨xs, h1, h2⟩ := h
  exact ⟨xs, s _ _ h1, h2.same s⟩
theorem pairsOf_get {ws : List Wd} {i : Nat} (h : i < ws.length) : (pairsOf ws)[i]? = some ((wAt ws i).2, (i : Int)) := by
  unfold pairsOf
  rw [List.getElem?_map, List.getElem?_range h]
  rfl
theorem pairsOf_len {ws : List Wd} : (pairsOf ws).length = ws.length := by
  unfold pairsOf
  rw [List.length_map, List.length_range]
theorem wAt_get {ws : List Wd} {i : Nat} {x : Wd} (h : ws[i]? = some x) : wAt ws i = x := by
  unfold wAt
  rw [List.getD_eq_getElem?_getD, h]
  rfl
theorem get_wAt {ws : List Wd} {i : Nat} (h : i < ws.length) : ws[i]? = some (wAt ws i) := by
  unfold wAt
  rw [List.getD_eq_getElem?_getD, List.getElem?_eq_getElem h]
  rfl
end K39
set_option autoImplicit false
namespace K39
open PySem PySem.Spec PyProof.Rows L2
open C8 (tCut pss_cut)
theorem last_int {l : List Int} (h : l ≠ []) : atI (l.map V.int) (-1) = some (.int (l.getLastD 0)) := by
  have e : l = l.dropLast ++ [l.getLastD 0] := by
    rw [List.getLastD_eq_getLast?, List.getLast?_eq_some_getLast h]
    exact (List.dropLast_concat_getLast h).symm
  have e2 : l.map V.int = l.dropLast.map V.int ++ [V.int (l.getLastD 0)] := by
    conv => lhs; rw [e]
    rw [List.map_append]
    rfl
  rw [e2]
  exact atI_last _ _
theorem fold_take {α β : Type} {f : β → α → β} {b : β} {l : List α} {i : Nat} {x : α} (h : l[i]? = some x) : (l.take (i + 1)).foldl f b = f ((l.take i).foldl f b) x := by
  rw [List.take_add_one, h, List.foldl_append]
  rfl
theorem getI {l : List Int} {i : Nat} (h : i < l.length) : (l.map V.int)[i]? = some (.int (l.getD i 0)) := by
  rw [List.getElem?_map, List.getD_eq_getElem?_getD, List.getElem?_eq_getElem h]
  rfl
theorem stepP_len {ws : List Wd} {acc : Ch} {p : Int × Int} {n : Nat} (h1 : acc.1.length ≤ n) (h2 : acc.2.length ≤ n) : (stepP ws acc p).1.length ≤ n + 1 ∧ (stepP ws acc p).2.length ≤ n + 1 := by
  unfold stepP
  split
  · simp only [List.length_append, List.length_singleton]
    omega
  · omega

section
variable {P : Program} {w : World} {K : PySem.W.Frag} {mg : Str → Option Value} {base : Heap}
/-! ### plan -/
def spPlan : Sp := fun vs H Q _ => ∃ (a : Addr) (ws : List Wd), vs = [.ref a] ∧ Wn H a ws ∧ ws.length ≤ 100 ∧
  ∀ (H' : Hp) (p pc ps : Addr) (R : List (Int × Int)), Same H H' → R.Perm (pairsOf ws) → R.Pairwise leP → H' p = some (.tup [.ref pc, .ref ps]) → H' pc = some (.tup ((planF ws R).1.map V.int)) → H' ps = some (.tup ((planF ws R).2.map V.int)) → Q (.ref p) H'
theorem ok_plan {f : Addr} {fd : FuncData} {k : Nat} (B : Bl mg) (F : Fun K "plan" "plan" sPlan f fd) : FnOk P w K mg base CX0 (k + 1) f fd ["windows"] spPlan := by
  refine F.ok scPlan (fun vs H Q E h => ?_) (fun cdv A outer s H vs Q E hr h => ?_)
  · obtain ⟨a, ws, rfl, _⟩ := h
    rfl
  · obtain ⟨a, ws, rfl, hW, hlen, q⟩ := h
    obtain ⟨xs, hxs, hP⟩ := hW
    refine ⟨_, pss_cons (ps_set (i := 1) scPlan.nd rfl (.inl rfl) (pe_callB cr_sortedPO (by rfl) B.sorted (by decide +kernel) (pa_cons
        (pe_lc (own := [("index", 5), ("_", 6), ("end", 4)]) (g := gTup K 2 (gCons (gName 5) (gCons (gTup K 2 (gCons (gName 6) (gCons (gName 4) gNil))) gNil))) (tt := tYes) rfl scPlan.nd (pi_enum (by rfl) B.enum (pa_cons (pv 0) pa_nil))
          (blkOk_by (N := ["windows", "ranked", "chosen", "stops", "end", "index", "_"]) (sc := defScope sPlan) (by decide +kernel))
          (fun _ _ _ _ _ => pg_tup rfl (pgs_cons (pg_name (i := 5) scPlan.nd rfl (Or.inl rfl)) (pgs_cons (pg_tup rfl (pgs_cons (pg_name (i := 6) scPlan.nd rfl (Or.inl rfl)) (pgs_cons (pg_name (i := 4) scPlan.nd rfl (Or.inl rfl)) pgs_nil))) pgs_nil)))
          (fun _ _ _ _ _ => pts_nil) (fun _ _ _ _ _ => pe_tup (pa_cons (pv 4) (pa_cons (pv 5) pa_nil)))) pa_nil)))
      (pss_cons (ps_set (i := 2) scPlan.nd rfl (.inl rfl) (pe_lst pa_nil))
      (pss_cons (ps_set (i := 3) scPlan.nd rfl (.inl rfl) (pe_lst pa_nil))
      (pss_cons (ps_for PassesOwn.never rfl (pi_list (pv 1)) (pg_tup rfl (pgs_cons (pg_name (i := 4) scPlan.nd rfl (.inl rfl)) (pgs_cons (pg_name (i := 5) scPlan.nd rfl (.inl rfl)) pgs_nil)))
        (pss_one (ps_if (PW.pt (pw_or (pt_not (pt_truth (pv 3) (by intro _; rfl))) (pw_or1 (pt_cmpR op_gt (pe_ix ix_tup (pe_ix ix_list (pv 0) (pv 5) (fun _ _ => rfl)) pe_int (fun _ _ => rfl)) (pe_ix ix_list (pv 3) (pe_un un_neg pe_int) (fun _ _ => rfl)) (nomark _)))))
          (pss_cons (ps_expr (pe_bm PySem.F.plainAttrs_list PySem.F.slot_list_append PySem.F.type_list_append mt_append (pv 2) (pa_cons (pv 5) pa_nil)))
          (pss_one (ps_expr (pe_bm PySem.F.plainAttrs_list PySem.F.slot_list_append PySem.F.type_list_append mt_append (pv 3) (pa_cons (pv 4) pa_nil))))) pss_nil)))
      (pss_one (ps_ret (pe_tup (pa_cons (pe_callTy call_tuple_of (by rfl) B.tuple (by decide +kernel) (pa_cons (pv 2) pa_nil)) (pa_cons (pe_callTy call_tuple_of (by rfl) B.tuple (by decide +kernel) (pa_cons (pv 3) pa_nil)) pa_nil)))))))), ?_⟩
    -- the pairs
    refine ⟨.ref a, rfl, a, xs, rfl, .inl (.inl hxs), fun D nD => ?_⟩
    refine lc_it (walk_enum (xs := xs)) (fun i H2 => Same H H2 ∧ ∃ acc, H2 D = some (.lst acc) ∧ acc.length = i ∧ PLs H2 acc ((pairsOf ws).take i)) ?_ ?_ ?_ ?_
    · exact ⟨same_new nD, [], upd_same, rfl, by rw [List.take_zero]; exact PLs.nil⟩
    · rintro i H2 _ ⟨sm, _⟩
      exact .inl (.inl (sm _ _ hxs))
    · rintro i x H2 H3 hi ⟨sm, acc, hD, el, hA⟩ ⟨T, x1, x2, rfl, nT, rfl, e1, e2⟩
      have hi2 : i < ws.length := by rw [← hP.len]; exact hi
      obtain ⟨t, g1, g2⟩ := hP.at hi2
      cases e1
      have e2 : xs[i]? = some x2 := e2
      rw [g1] at e2
      cases e2
      have s2 : Same H2 (upd H2 T (.tup [.int (i : Int), .ref t])) := same_new nT
      have g3 := s2 _ _ (sm _ _ g2)
      refine ⟨T, _, rfl, .inl (.inl upd_same), rfl, _, _, rfl, _, _, rfl, ⟨t, _, rfl, .inl (.inl g3), rfl, _, _, rfl, _, _, rfl, rfl, rfl, rfl, ?_⟩⟩
      refine ⟨_, rfl, _, rfl, by show 2 ≤ sizeLine; decide, fun U nU => ?_⟩
      have hDT := s2 _ _ hD
      have hDU := (same_new (o := tupO ((wAt ws i).2, (i : Int))) nU) _ _ hDT
      refine ⟨acc, hDU, small1000 (by omega), ?_, acc ++ [.ref U], upd_same, by rw [List.length_append, el]; rfl, ?_⟩
      · exact same_away (sm.trans (s2.trans (same_new nU))) nD
      · refine PLs.put ?_ hDU
        rw [List.take_add_one, pairsOf_get hi2]
        exact ((hA.same s2).same (same_new nU)).snoc upd_same
    · rintro H2 ⟨sm, acc, hD, el, hA⟩
      rw [hP.len, ← pairsOf_len (ws := ws), List.take_length] at hA
      -- sorted
      refine ⟨D, acc, pairAt H2, rfl, .inl (.inl hD), sorted_all hA, fun ys p h1 h2 np => ?_⟩
      obtain ⟨hR, hperm, hsort⟩ := hA.sorted h1 h2
      generalize hRR : ys.map (pairAt H2) = R at hR hperm hsort
      have s3 : Same H (upd H2 p (.lst ys)) := sm.trans (same_new np)
      have hR3 : PLs (upd H2 p (.lst ys)) ys R := hR.same (same_new np)
      have hp3 : upd H2 p (.lst ys) p = some (.lst ys) := upd_same
      generalize upd H2 p (.lst ys) = H3 at s3 hR3 hp3
      -- chosen, stops
      refine ⟨Nat.zero_le _, fun lc nc => ⟨Nat.zero_le _, fun ls ns => ?_⟩⟩
      have s4 : Same H3 (upd (upd H3 lc (.lst [])) ls (.lst [])) := (same_new nc).trans (same_new ns)
      have ncs : lc ≠ ls := fun e => by rw [← e, upd_same] at ns; cases ns
      have hRlen : R.length = ws.length := by rw [hperm.length_eq, pairsOf_len]
      have hyl : ys.length = R.length := hR3.len
      refine ⟨.ref p, rfl, p, rfl, ⟨ys, .inl (.inl (s4 _ _ hp3))⟩, ?_⟩
      refine for_it (walk_list (xs := ys)) (fun i σ H4 => ∃ y4 y5, σ = [some (.ref a), some (.ref p), some (.ref lc), some (.ref ls), y4, y5, none] ∧ Same H3 H4 ∧
        ∃ acc : Ch, acc = (R.take i).foldl (stepP ws) ([], []) ∧ acc.1.length ≤ i ∧ acc.2.length ≤ i ∧ H4 lc = some (.lst (acc.1.map V.int)) ∧ H4 ls = some (.lst (acc.2.map V.int))) ?_ ?_ ?_ ?_
      · refine ⟨none, none, rfl, s4, ([], []), by rw [List.take_zero]; rfl, Nat.le_refl _, Nat.le_refl _, ?_, upd_same⟩
        rw [upd_ne ncs, upd_same]
        rfl
      · rintro i σ H4 _ ⟨y4, y5, _, sm4, _⟩
        exact .inl (.inl (sm4 _ _ hp3))
      · rintro i x σ H4 H5 hi ⟨y4, y5, rfl, sm4, acc, eacc, el1, el2, hc, hs⟩ ⟨rfl, hx⟩
        have hiR : i < R.length := by omega
        obtain ⟨t, g1, g2⟩ := hR3.at hiR
        rw [hx] at g1
        cases g1
        have g3 := sm4 _ _ g2
        have hget : R[i]? = some (wAt R i) := get_wAt hiR
        have enext : (R.take (i + 1)).foldl (stepP ws) ([], []) = stepP ws acc (wAt R i) := by rw [fold_take hget, ← eacc]
        obtain ⟨kk, hkk, ek⟩ := List.mem_map.mp (hperm.mem_iff.mp (List.mem_of_getElem? hget))
        have hkn := List.mem_range.mp hkk
        generalize wAt R i = pr at g3 enext ek
        subst ek
        obtain ⟨l1, l2⟩ := stepP_len (ws := ws) (p := ((wAt ws kk).2, (kk : Int))) el1 el2
        rw [← enext] at l1 l2
        refine ⟨t, _, rfl, .inl (.inl g3), rfl, _, _, rfl, _, _, rfl, rfl, ?_⟩
        -- what both ways bring
        have take_it : (acc.2.isEmpty || decide (acc.2.getLastD 0 < (wAt ws kk).1)) = true → stepP ws acc ((wAt ws kk).2, (kk : Int)) = (acc.1 ++ [(kk : Int)], acc.2 ++ [(wAt ws kk).2]) := fun h => by
          unfold stepP
          rw [if_pos]
          simpa using h
        have leave_it : (acc.2.isEmpty || decide (acc.2.getLastD 0 < (wAt ws kk).1)) = false → stepP ws acc ((wAt ws kk).2, (kk : Int)) = acc := fun h => by
          unfold stepP
          rw [if_neg]
          simpa using h
        have hcs : lc ≠ ls := ncs
        obtain ⟨tw, w1, w2⟩ := hP.at hkn
        have w3 := sm4 _ _ (s3 _ _ w2)
        have hxs4 := sm4 _ _ (s3 _ _ hxs)
        have fin : stepP ws acc ((wAt ws kk).2, (kk : Int)) = (acc.1 ++ [(kk : Int)], acc.2 ++ [(wAt ws kk).2]) → ∃ acc' : Ch, acc' = (R.take (i + 1)).foldl (stepP ws) ([], []) ∧ acc'.1.length ≤ i + 1 ∧ acc'.2.length ≤ i + 1 ∧
            (upd (upd H5 lc (.lst (acc.1.map V.int ++ [.int (kk : Int)]))) ls (.lst (acc.2.map V.int ++ [.int (wAt ws kk).2]))) lc = some (.lst (acc'.1.map V.int)) ∧
            (upd (upd H5 lc (.lst (acc.1.map V.int ++ [.int (kk : Int)]))) ls (.lst (acc.2.map V.int ++ [.int (wAt ws kk).2]))) ls = some (.lst (acc'.2.map V.int)) := fun e => by
          refine ⟨_, rfl, l1, l2, ?_, ?_⟩
          · rw [enext, e, upd_ne hcs, upd_same, List.map_append]
            rfl
          · rw [enext, e, upd_same, List.map_append]
            rfl
        have smF : Same H3 (upd (upd H5 lc (.lst (acc.1.map V.int ++ [.int (kk : Int)]))) ls (.lst (acc.2.map V.int ++ [.int (wAt ws kk).2]))) := by
          have n2 : H3 ls = none := by
            rw [upd_ne hcs.symm] at ns
            exact ns
          exact same_away (same_away sm4 nc) n2
        have small : ∀ m : Nat, m ≤ i → m < sizeLine := fun m hm => small1000 (by omega)
        by_cases hE : acc.2 = []
        · refine ⟨.ref ls, rfl, false, .inl ⟨_, .inl (.inl hs), by rw [hE]; rfl⟩, ?_⟩
          refine ⟨.ref lc, rfl, .inl ⟨rfl, _, .inl (.inl hc)⟩, _, rfl, lc, _, _, rfl, rfl, hc, by rw [List.length_map]; exact small _ el1, ?_⟩
          have hs2 : upd H5 lc (.lst (acc.1.map V.int ++ [.int (kk : Int)])) ls = some (.lst (acc.2.map V.int)) := by rw [upd_ne hcs.symm]; exact hs
          refine ⟨.ref ls, rfl, .inl ⟨rfl, _, .inl (.inl hs2)⟩, _, rfl, ls, _, _, rfl, rfl, hs2, by rw [List.length_map]; exact small _ el2, ?_⟩
          exact ⟨_, _, rfl, smF, fin (take_it (by rw [hE]; rfl))⟩
        · have eF : true = !(acc.2.map V.int).isEmpty := by
            cases h : acc.2 with
            | nil => exact absurd h hE
            | cons x r => rfl
          refine ⟨.ref ls, rfl, true, .inl ⟨_, .inl (.inl hs), eF⟩, ?_⟩
          have eE : acc.2.isEmpty = false := by
            cases h : acc.2 with
            | nil => exact absurd h hE
            | cons x r => rfl
          refine ⟨.ref a, rfl, _, rfl, a, _, _, _, rfl, rfl, .inl (.inl hxs4), atI_nat w1, tw, _, 0, _, rfl, rfl, .inl (.inl w3), atI_nat (j := 0) rfl, ?_⟩
          refine ⟨.ref ls, rfl, 1, rfl, ls, _, -1, _, rfl, rfl, .inl (.inl hs), last_int hE, _, _, rfl, rfl, _, rfl, ite2 (fun e => ?_) (fun e => ?_)⟩
          · refine ⟨.ref lc, rfl, .inl ⟨rfl, _, .inl (.inl hc)⟩, _, rfl, lc, _, _, rfl, rfl, hc, by rw [List.length_map]; exact small _ el1, ?_⟩
            have hs2 : upd H5 lc (.lst (acc.1.map V.int ++ [.int (kk : Int)])) ls = some (.lst (acc.2.map V.int)) := by rw [upd_ne hcs.symm]; exact hs
            refine ⟨.ref ls, rfl, .inl ⟨rfl, _, .inl (.inl hs2)⟩, _, rfl, ls, _, _, rfl, rfl, hs2, by rw [List.length_map]; exact small _ el2, ?_⟩
            refine ⟨_, _, rfl, smF, fin (take_it ?_)⟩
            rw [eE, Bool.false_or]
            exact e
          · refine ⟨_, _, rfl, sm4, acc, ?_, by omega, by omega, hc, hs⟩
            rw [enext]
            refine (leave_it ?_).symm
            rw [eE, Bool.false_or]
            exact Bool.eq_false_iff.mpr e
      · rintro σ H4 ⟨y4, y5, rfl, sm4, acc, eacc, el1, el2, hc, hs⟩
        rw [hyl, List.take_length] at eacc
        subst eacc
        refine ⟨.ref lc, rfl, lc, _, rfl, .inl ⟨.inl (.inl hc), fun pc npc => ?_⟩⟩
        have s5 : Same H4 (upd H4 pc (.tup ((planF ws R).1.map V.int))) := same_new npc
        refine ⟨.ref ls, rfl, ls, _, rfl, .inl ⟨.inl (.inl (s5 _ _ hs)), fun ps nps => ?_⟩⟩
        have s6 : Same (upd H4 pc (.tup ((planF ws R).1.map V.int))) (upd (upd H4 pc (.tup ((planF ws R).1.map V.int))) ps (.tup ((planF ws R).2.map V.int))) := same_new nps
        refine ⟨by show 2 ≤ sizeLine; decide, fun pp npp => ?_⟩
        have s7 := same_new (o := .tup [.ref pc, .ref ps]) npp
        exact q _ pp pc ps R (s3.trans (sm4.trans (s5.trans (s6.trans s7)))) hperm hsort upd_same (s7 _ _ (s6 _ _ upd_same)) (s7 _ _ upd_same)
end
end K39
set_option autoImplicit false
namespace K39
open PySem PySem.Spec PyProof.Rows L2
open C8 (tCut pss_cut)
/-! ### comprehensions without a test, whose turns only make new objects -/
theorem lc_vals {J : It} {n : Nat} {G : Hp → Prop} {Y : Nat → Hp → V → Hp → Prop} (w : Walk J n G Y) {g : TG} {te : TE} {vs : List Nat} {σ : L2.St} {H0 H1 : Hp} {D : Addr} {Qd : Hp → Prop}
    (val : Nat → V) (s0 : Same H0 H1) (nD : H1 D = none) (hn : n ≤ 1000) (hG : ∀ H, Same H0 H → G H)
    (hs : ∀ (i : Nat) (x : V) (H H' : Hp) (Qn : V → Hp → Prop), i < n → Same H0 H → Y i H x H' → (∀ H4, Same H H4 → Qn (val i) H4) → g x (wipe σ vs) H' fun σ2 H2 => wipe σ2 vs = wipe σ vs ∧ te σ2 H2 Qn)
    (hd : ∀ H, Same H0 H → H D = some (.lst ((List.range n).map val)) → Qd H) :
    ∃ W : Nat → Nat → Hp → Prop,
      (∃ m, W 0 m (upd H1 D (.lst []))) ∧
        ∀ i m H, W i m H →
          (J.stop i H ∧ Qd H) ∨
            (J.go i H ∧
              ∃ Nx : Hp → Prop,
                (∀ H', Nx H' → ∃ m', m' < m ∧ W (i + 1) m' H') ∧
                  ∀ x H', J.yld i H x H' →
                    g x (wipe σ vs) H' fun σ2 H2 =>
                      wipe σ2 vs = wipe σ vs ∧
                        tYes σ2 H2 fun b H3 =>
                          if b = true then te σ2 H3 fun y H4 => ∃ acc, H4 D = some (.lst acc) ∧ acc.length < sizeLine ∧ Nx (upd H4 D (.lst (acc ++ [y])))
                          else Nx H3) := by
  have n0 : H0 D = none := s0.free nD
  refine lc_it w (fun i H => Same H0 H ∧ H D = some (.lst ((List.range i).map val))) ⟨same_away s0 n0, upd_same⟩ (fun i H _ h => hG H h.1) ?_ (fun H h => hd H h.1 h.2)
  rintro i x H H' hi ⟨sm, hD⟩ hY
  refine hs i x H H' _ hi sm hY fun H4 s4 => ?_
  refine ⟨_, s4 _ _ hD, ?_, same_away (sm.trans s4) n0, ?_⟩
  · rw [List.length_map, List.length_range]
    exact small1000 (by omega)
  · rw [upd_same, List.range_succ, List.map_append]
    rfl
theorem walk_zipT {K : PySem.W.Frag} {a b : Addr} {xs ys : List V} {n : Nat} (hn : n = min xs.length ys.length) : Walk (RZ.ItzT K a b) n (fun H => SqT K H a xs ∧ SqT K H b ys) (YPair (fun i => xs[i]?) (fun i => ys[i]?)) := by
  subst hn
  constructor
  · rintro i H hi ⟨qx, qy⟩
    have both : i < xs.length ∧ i < ys.length := by omega
    exact ⟨xs, ys, xs[i], ys[i], qx, qy, List.getElem?_eq_getElem both.1, List.getElem?_eq_getElem both.2⟩
  · rintro H ⟨qx, qy⟩
    exact ⟨xs, ys, qx, qy, by omega⟩
  · rintro i H v H' _ ⟨qx, qy⟩ ⟨T, x, z, ev, fresh, eh, fx, fy⟩
    exact ⟨T, x, z, ev, fresh, eh, fx xs qx, fy ys qy⟩
theorem tup_same {H H' : Hp} {p : Addr} {xs : List V} (s : Same H H') {K : PySem.W.Frag} (h : H p = some (.tup xs)) : SqT K H' p xs := .inl (.inl (s _ _ h))
theorem bls_map {n : Nat} {b : Nat → Bool} : (List.range n).map (fun i => V.bl (b i)) = ((List.range n).map b).map V.bl := by
  rw [List.map_map]
  rfl
theorem all_map {n : Nat} {b : Nat → Bool} : ((List.range n).map b).all id = (List.range n).all b := by
  rw [List.all_map]
  rfl
theorem any_map {n : Nat} {b : Nat → Bool} : ((List.range n).map b).any id = (List.range n).any b := by
  rw [List.any_map]
  rfl
theorem all_range {l : List Int} {p : Int → Bool} : (List.range l.length).all (fun i => p (l.getD i 0)) = l.all p := by
  rw [Bool.eq_iff_iff, List.all_eq_true, List.all_eq_true]
  constructor
  · intro h x hx
    obtain ⟨i, hi, e⟩ := List.mem_iff_getElem.mp hx
    have q := h i (List.mem_range.mpr hi)
    rw [List.getD_eq_getElem?_getD, List.getElem?_eq_getElem hi, e] at q
    exact q
  · intro h i hi
    exact h _ (getD_mem (List.mem_range.mp hi))
theorem any_range {l : List Int} {p : Int → Bool} : (List.range l.length).any (fun i => p (l.getD i 0)) = l.any p := by
  rw [Bool.eq_iff_iff, List.any_eq_true, List.any_eq_true]
  constructor
  · rintro ⟨i, hi, q⟩
    exact ⟨_, getD_mem (List.mem_range.mp hi), q⟩
  · rintro ⟨x, hx, q⟩
    obtain ⟨i, hi, e⟩ := List.mem_iff_getElem.mp hx
    refine ⟨i, List.mem_range.mpr hi, ?_⟩
    rw [List.getD_eq_getElem?_getD, List.getElem?_eq_getElem hi, e]
    exact q
theorem all_rangeW {ws : List Wd} {p : Wd → Bool} : (List.range ws.length).all (fun i => p (wAt ws i)) = ws.all p := by
  rw [Bool.eq_iff_iff, List.all_eq_true, List.all_eq_true]
  constructor
  · intro h x hx
    obtain ⟨i, hi, e⟩ := List.mem_iff_getElem.mp hx
    have q := h i (List.mem_range.mpr hi)
    rw [wAt_get (by rw [List.getElem?_eq_getElem hi, e])] at q
    exact q
  · intro h i hi
    exact h _ (wAt_mem (List.mem_range.mp hi))
theorem takes_split {ws : List Wd} {ch st : List Int} (h : ch.length = st.length) :
    takesB ws ch st = (ch.all (inR ws) && ((List.range (ch.length - 1)).all (apartAt ws ch) && ((List.range (st.length - 1)).all (riseAt st) && coverB ws st))) := by
  have e : (List.range (ch.length - 1)).all (fun i => apartAt ws ch i && riseAt st i) = ((List.range (ch.length - 1)).all (apartAt ws ch) && (List.range (st.length - 1)).all (riseAt st)) := by
    rw [← h, Bool.eq_iff_iff, Bool.and_eq_true, List.all_eq_true, List.all_eq_true, List.all_eq_true]
    constructor
    · intro q
      refine ⟨fun i hi => ?_, fun i hi => ?_⟩
      · have := q i hi
        rw [Bool.and_eq_true] at this
        exact this.1
      · have := q i hi
        rw [Bool.and_eq_true] at this
        exact this.2
    · rintro ⟨q1, q2⟩ i hi
      rw [Bool.and_eq_true]
      exact ⟨q1 i hi, q2 i hi⟩
  unfold takesB
  rw [decide_eq_true h, Bool.true_and, e, Bool.and_assoc]
theorem takes_len {ws : List Wd} {ch st : List Int} (h : ch.length ≠ st.length) : takesB ws ch st = false := by
  unfold takesB
  rw [decide_eq_false h, Bool.false_and]
end K39
set_option autoImplicit false
namespace K39
open PySem PySem.Spec PyProof.Rows L2
open C8 (tCut pss_cut)
theorem first_cut (n : Nat) : HT.sIx n 0 (some 1) = min 1 n := HT.sIx_nat n 0 1
theorem cut_one (xs : List V) : cutV xs (some 1) none = xs.drop 1 := by
  unfold cutV
  rw [first_cut, HT.sIx_none]
  cases xs with
  | nil => rfl
  | cons x r =>
    have e : min 1 (x :: r).length = 1 := by
      rw [List.length_cons]
      omega
    rw [e, List.drop_succ_cons, List.drop_zero, List.length_cons]
    exact List.take_of_length_le (by omega)
/-- the scope of the last comprehension of takes_plan -/
def scCover : Scope := { kind := .function, names := [(".0", .local), ("start", .cell), ("end", .cell), ("any", .globalImplicit), ("stops", .free)], isGenerator := false, isCoroutine := false }
/-- t[1:], also where that is t itself -/
theorem cut1_tup {K : PySem.W.Frag} {Q : VK} {H : Hp} {a : Addr} {xs : List V} (ha : H a = some (.tup xs)) (h : ∀ (H4 : Hp) (p2 : Addr), Same H H4 → H4 p2 = some (.tup (xs.drop 1)) → Q (.ref p2) H4) :
    rSlA K (.ref a) (some 1) none H Q := by
  refine ⟨a, xs, rfl, .inl (.inl ha), fun e => ?_, fun e p np => ?_⟩
  · refine h H a (Same.refl H) ?_
    rw [first_cut] at e
    have e0 : xs = [] := by
      cases xs with
      | nil => rfl
      | cons x r =>
        have := e.1
        rw [List.length_cons] at this
        omega
    rw [ha, e0]
    rfl
  · rw [cut_one]
    exact h _ p (same_new np) upd_same
theorem zip_len (n : Nat) : n - 1 = min n (n - 1) := by omega
theorem dropI {l : List Int} {i : Nat} (h : i + 1 < l.length) : ((l.map V.int).drop 1)[i]? = some (.int (l.getD (i + 1) 0)) := by
  rw [List.getElem?_drop, Nat.add_comm 1 i]
  exact getI h
theorem wIr {ws : List Wd} {ch : List Int} (h : ∀ k ∈ ch, inR ws k = true) {i : Nat} (hi : i < ch.length) : (ch.getD i 0) = ((ch.getD i 0).toNat : Int) ∧ (ch.getD i 0).toNat < ws.length := by
  have q := h _ (getD_mem hi)
  unfold inR at q
  rw [Bool.and_eq_true, decide_eq_true_eq, decide_eq_true_eq] at q
  omega

section
variable {P : Program} {w : World} {K : PySem.W.Frag} {mg : Str → Option Value} {base : Heap}
/-! ### takes_plan -/
/-- readings of elements, by K alone -/
abbrev rLenK (K : PySem.W.Frag) : List V → Hp → VK → Prop := fun xs H Q => ∃ p ys, xs = [V.ref p] ∧ (SqL K H p ys ∨ SqT K H p ys) ∧ Q (.int ys.length) H
abbrev rLtI : R2 := rI0 fun i j => .bl (decide (i < j))
abbrev rLeI : R2 := rI0 fun i j => .bl (decide (i ≤ j))
abbrev teIn (K : PySem.W.Frag) (i j : Nat) : TE := tChain rLeI rLtI (tC (.int 0)) (tVar i) (tCB (rLenK K) (tCons (tVar j) tNil))
abbrev teAt (K : PySem.W.Frag) (i j : Nat) : TE := tOp (rIxL K) (tVar i) (tVar j)
abbrev teFst (K : PySem.W.Frag) (i : Nat) (n : Int) : TE := tOp (rIxT K) (tVar i) (tC (.int n))
abbrev teCover (K : PySem.W.Frag) : TE := tCB (rAny K) (tCons (tLc (iTup K (tVar 2)) (gName 7) tYes (tChain rLeI rLeI (tVar 8) (tVar 7) (tVar 9)) [7]) tNil)
def spTakes : Sp := fun vs H Q _ => ∃ (a pc ps : Addr) (ws : List Wd) (ch st : List Int), vs = [.ref a, .ref pc, .ref ps] ∧ Wn H a ws ∧ ws.length ≤ 100 ∧
  H pc = some (.tup (ch.map V.int)) ∧ ch.length ≤ 100 ∧ H ps = some (.tup (st.map V.int)) ∧ st.length ≤ 100 ∧ ∀ H', Same H H' → Q (.bl (takesB ws ch st)) H'
theorem ok_takes {f : Addr} {fd : FuncData} {k : Nat} (B : Bl mg) (F : Fun K "takes_plan" "takes_plan" sTakes f fd) : FnOk P w K mg base CX0 (k + 1) f fd ["windows", "chosen", "stops"] spTakes := by
  refine F.ok scTakes (fun vs H Q E h => ?_) (fun cdv A outer s H vs Q E hr h => ?_)
  · obtain ⟨a, pc, ps, ws, ch, st, rfl, _⟩ := h
    rfl
  · obtain ⟨a, pc, ps, ws, ch, st, rfl, hW, hwl, hpc, hcl, hps, hsl, q⟩ := h
    obtain ⟨xs, hxs, hP⟩ := hW
    refine ⟨_, pss_cons (ps_if (PW.pt (pw_or (pt_cmpR op_ne (pe_callB call_len_seq (by rfl) B.len PySem.boot_len (pa_cons (pv 1) pa_nil)) (pe_callB call_len_seq (by rfl) B.len PySem.boot_len (pa_cons (pv 2) pa_nil)) (nomark _))
          (pw_or1 (pt_not (pt_val (pe_callB (cr_all rfl) (by rfl) B.all (by decide +kernel) (pa_cons
            (pe_lc (own := [("index", 4)]) (g := gName 4) (tt := tYes) (te := teIn K 4 0) rfl scTakes.nd (pi_tup (pv 1)) (blkOk_by (N := ["windows", "chosen", "stops", "told", "index", "before", "after", "stop", "start", "end"]) (sc := defScope sTakes) (by decide +kernel))
              (fun _ _ _ _ _ => pg_name (i := 4) scTakes.nd rfl (Or.inl rfl)) (fun _ _ _ _ _ => pts_nil)
              (fun _ _ _ _ _ => pe_chain op_le op_lt pe_int (pv 4) (pe_callB call_len_seq (by rfl) B.len PySem.boot_len (pa_cons (pv 0) pa_nil)))) pa_nil)))))))
        (pss_one (ps_ret pe_bl)) pss_nil)
      (pss_cons (ps_setLc (i := 3) (own := [("index", 4)]) (g := gName 4) (tt := tYes) (te := teAt K 0 4) rfl scTakes.nd rfl rfl (sw_true rfl rfl rfl (by decide +kernel)) (pi_tup (pv 1)) (blkOk_by (N := ["windows", "chosen", "stops", "told", "index", "before", "after", "stop", "start", "end"]) (sc := defScope sTakes) (by decide +kernel))
              (fun _ _ _ _ _ => pg_name (i := 4) scTakes.nd rfl (Or.inl rfl)) (fun _ _ _ _ _ => pts_nil) (fun _ _ _ _ _ => pe_ix ix_list (pv 0) (pv 4) (fun _ _ => rfl)))
      (pss_cons (ps_if (pt_not (pt_val (pe_callB (cr_all rfl) (by rfl) B.all (by decide +kernel) (pa_cons
            (pe_lc (own := [("before", 5), ("after", 6)]) (g := gTup K 2 (gCons (gName 5) (gCons (gName 6) gNil))) (tt := tYes) (te := tOp rLtI (teFst K 5 1) (teFst K 6 0)) rfl scTakes.nd (pi_zip (by rfl) B.zip (pa_cons (pv 3) (pa_cons (pe_slice sl_list (pv 3) (po_some pe_int) po_none) pa_nil)))
              (blkOk_by (N := ["windows", "chosen", "stops", "told", "index", "before", "after", "stop", "start", "end"]) (sc := defScope sTakes) (by decide +kernel))
              (fun _ _ _ _ _ => pg_tup rfl (pgs_cons (pg_name (i := 5) scTakes.nd rfl (Or.inl rfl)) (pgs_cons (pg_name (i := 6) scTakes.nd rfl (Or.inl rfl)) pgs_nil))) (fun _ _ _ _ _ => pts_nil)
              (fun _ _ _ _ _ => pe_cmpR op_lt (pe_ix ix_tup (pv 5) pe_int (fun _ _ => rfl)) (pe_ix ix_tup (pv 6) pe_int (fun _ _ => rfl)) (nomark _))) pa_nil))))
        (pss_one (ps_ret pe_bl)) pss_nil)
      (pss_cons (ps_if (pt_not (pt_val (pe_callB (cr_all rfl) (by rfl) B.all (by decide +kernel) (pa_cons
            (pe_lc (own := [("before", 5), ("after", 6)]) (g := gTup K 2 (gCons (gName 5) (gCons (gName 6) gNil))) (tt := tYes) (te := tOp rLtI (tVar 5) (tVar 6)) rfl scTakes.nd (RZ.pi_zipA (by rfl) B.zip (pa_cons (pv 2) (pa_cons (pe_slice sl_tupA (pv 2) (po_some pe_int) po_none) pa_nil)))
              (blkOk_by (N := ["windows", "chosen", "stops", "told", "index", "before", "after", "stop", "start", "end"]) (sc := defScope sTakes) (by decide +kernel))
              (fun _ _ _ _ _ => pg_tup rfl (pgs_cons (pg_name (i := 5) scTakes.nd rfl (Or.inl rfl)) (pgs_cons (pg_name (i := 6) scTakes.nd rfl (Or.inl rfl)) pgs_nil))) (fun _ _ _ _ _ => pts_nil)
              (fun _ _ _ _ _ => pe_cmpR op_lt (pv 5) (pv 6) (nomark _))) pa_nil))))
        (pss_one (ps_ret pe_bl)) pss_nil)
      (pss_one (ps_ret (pe_callB (cr_all rfl) (by rfl) B.all (by decide +kernel) (pa_cons
            (pe_lc (own := [("start", 8), ("end", 9)]) (g := gTup K 2 (gCons (gName 8) (gCons (gName 9) gNil))) (tt := tYes) (te := teCover K) rfl scTakes.nd (pi_list (pv 0))
              (blkOk_by (N := ["windows", "chosen", "stops", "told", "index", "before", "after", "stop", "start", "end"]) (sc := defScope sTakes) (by decide +kernel))
              (fun _ _ _ _ _ => pg_tup rfl (pgs_cons (pg_name (i := 8) scTakes.nd rfl (Or.inr rfl)) (pgs_cons (pg_name (i := 9) scTakes.nd rfl (Or.inr rfl)) pgs_nil))) (fun _ _ _ _ _ => pts_nil)
              (fun _ _ _ _ _ => pe_callB (cr_any rfl) (by rfl) B.any (by decide +kernel) (pa_cons
                (pe_lc (own := [("stop", 7)]) (g := gName 7) (tt := tYes) rfl scTakes.nd (pi_tup (pv 2)) (blkOk_by (N := ["windows", "chosen", "stops", "told", "index", "before", "after", "stop", "start", "end"]) (sc := relS scCover (defScope sTakes)) (by decide +kernel))
                  (fun _ _ _ _ _ => pg_name (i := 7) scTakes.nd rfl (Or.inl rfl)) (fun _ _ _ _ _ => pts_nil)
                  (fun _ _ _ _ _ => pe_chain op_le op_le (pv 8) (pv 7) (pv 9))) pa_nil))) pa_nil))))))), ?_⟩
    have hN : ch.length ≤ 1000 := by omega
    refine ⟨.ref pc, rfl, pc, _, rfl, .inr (.inl (.inl hpc)), .ref ps, rfl, ps, _, rfl, .inr (.inl (.inl hps)), rfl, _, rfl, ?_⟩
    by_cases hlen : ch.length = st.length
    rotate_left
    · -- of unlike lengths
      have e : (!decide (V.int ((ch.map V.int).length : Nat) = V.int ((st.map V.int).length : Nat))) = true := by
        rw [decide_eq_false, Bool.not_false]
        intro z
        have z2 := V.int.inj z
        rw [List.length_map, List.length_map] at z2
        exact hlen (by omega)
      rw [e]
      have := q H (Same.refl H)
      rw [takes_len hlen] at this
      exact this
    have e : (!decide (V.int ((ch.map V.int).length : Nat) = V.int ((st.map V.int).length : Nat))) = false := by
      rw [decide_eq_true, Bool.not_true]
      rw [List.length_map, List.length_map, hlen]
    rw [e]
    rw [takes_split hlen] at q
    -- are the indexes in range
    refine ⟨.ref pc, rfl, pc, rfl, ⟨_, .inl (.inl hpc)⟩, fun D nD => ?_⟩
    refine lc_vals (n := (ch.map V.int).length) (walk_tup (xs := ch.map V.int)) (fun i => .bl (inR ws (ch.getD i 0))) (Same.refl H) nD (by rw [List.length_map]; exact hN) (fun H1 s1 => tup_same s1 hpc) ?_ ?_
    · rintro i x H1 _ Qn hi s1 ⟨rfl, hx⟩ hQ
      rw [List.length_map] at hi
      rw [getI hi] at hx
      cases hx
      generalize ch.getD i 0 = c at hQ
      refine ⟨rfl, .int c, rfl, 0, c, rfl, rfl, _, rfl, ite2 (fun e0 => ?_) (fun e0 => ?_)⟩
      · refine ⟨.ref a, rfl, a, xs, rfl, .inl (.inl (.inl (s1 _ _ hxs))), c, _, rfl, rfl, ?_⟩
        have r := hQ _ (Same.refl _)
        have e1 : inR ws c = decide (c < (xs.length : Int)) := by
          unfold inR
          rw [e0, Bool.true_and, hP.len]
        rw [e1] at r
        exact r
      · have r := hQ _ (Same.refl _)
        have e1 : inR ws c = false := by
          unfold inR
          rw [Bool.eq_false_iff.mpr e0, Bool.false_and]
        rw [e1] at r
        exact r
    intro H1 s1 hD
    rw [List.length_map, bls_map] at hD
    refine ⟨D, _, rfl, .inl (.inl hD), _, rfl, ?_⟩
    rw [all_map, all_range]
    cases hR : ch.all (inR ws) with
    | false =>
      rw [hR, Bool.false_and] at q
      exact q H1 s1
    | true =>
    rw [hR, Bool.true_and] at q
    have hin : ∀ k ∈ ch, inR ws k = true := List.all_eq_true.mp hR
    -- told
    refine ⟨.ref pc, rfl, pc, rfl, ⟨_, tup_same s1 hpc⟩, fun L nL => ?_⟩
    refine lc_vals (n := (ch.map V.int).length) (walk_tup (xs := ch.map V.int)) (fun i => xs.getD (ch.getD i 0).toNat .non) s1 nL (by rw [List.length_map]; exact hN) (fun H1 s1 => tup_same s1 hpc) ?_ ?_
    · rintro i x H1 _ Qn hi s1 ⟨rfl, hx⟩ hQ
      rw [List.length_map] at hi
      rw [getI hi] at hx
      cases hx
      obtain ⟨e0, e1⟩ := wIr hin hi
      generalize hc : ch.getD i 0 = c at hQ e0 e1
      have hlt : c.toNat < xs.length := by rw [hP.len]; exact e1
      refine ⟨rfl, .ref a, rfl, .int c, rfl, a, xs, c, _, rfl, rfl, .inl (.inl (s1 _ _ hxs)), at_of (j := c.toNat) e0 (List.getElem?_eq_getElem hlt), ?_⟩
      have r := hQ _ (Same.refl _)
      rw [List.getD_eq_getElem?_getD, List.getElem?_eq_getElem hlt] at r
      exact r
    intro H2 s2 hL
    rw [List.length_map] at hL
    generalize hT : (List.range ch.length).map (fun i => xs.getD (ch.getD i 0).toNat V.non) = told at hL
    have tlen : told.length = ch.length := by rw [← hT, List.length_map, List.length_range]
    have tget : ∀ i, i < ch.length → ∃ t, told[i]? = some (.ref t) ∧ H t = some (tupO (wI ws (ch.getD i 0))) := fun i hi => by
      obtain ⟨e0, e1⟩ := wIr hin hi
      obtain ⟨t, g1, g2⟩ := hP.at e1
      refine ⟨t, ?_, g2⟩
      rw [← hT, List.getElem?_map, List.getElem?_range hi]
      show some (xs.getD (ch.getD i 0).toNat V.non) = _
      rw [List.getD_eq_getElem?_getD, g1]
      rfl
    -- told, one behind another
    refine ⟨.ref L, rfl, .ref L, rfl, 1, rfl, L, told, rfl, .inl (.inl hL), fun L2 nL2 => ?_⟩
    rw [cut_one]
    have s3 : Same H2 (upd H2 L2 (.lst (told.drop 1))) := same_new nL2
    refine ⟨L, L2, told, told.drop 1, rfl, .inl (.inl (s3 _ _ hL)), .inl (.inl upd_same), fun D2 nD2 => ?_⟩
    have h3L : ∀ H3, Same (upd H2 L2 (.lst (told.drop 1))) H3 → SqL K H3 L told ∧ SqL K H3 L2 (told.drop 1) := fun H3 s => ⟨.inl (.inl (s _ _ (s3 _ _ hL))), .inl (.inl (s _ _ upd_same))⟩
    refine lc_vals (n := ch.length - 1) (walk_zip (xs := told) (ys := told.drop 1) (by rw [List.length_drop, tlen]; exact zip_len _)) (fun i => .bl (apartAt ws ch i)) (Same.refl _) nD2 (by omega) h3L ?_ ?_
    · rintro i x H3 _ Qn hi s4 ⟨T, x1, x2, rfl, nT, rfl, e1, e2⟩ hQ
      obtain ⟨t1, g1, g2⟩ := tget i (by omega)
      obtain ⟨t2, g3, g4⟩ := tget (i + 1) (by omega)
      have e1 : told[i]? = some x1 := e1
      have e2 : (told.drop 1)[i]? = some x2 := e2
      rw [g1] at e1
      rw [List.getElem?_drop, Nat.add_comm 1 i, g3] at e2
      cases e1
      cases e2
      have s5 : Same H3 (upd H3 T (.tup [.ref t1, .ref t2])) := same_new nT
      have sAll : Same H (upd H3 T (.tup [.ref t1, .ref t2])) := s2.trans (s3.trans (s4.trans s5))
      refine ⟨T, _, rfl, .inl (.inl upd_same), rfl, _, _, rfl, _, _, rfl, rfl, rfl, ?_⟩
      refine ⟨.ref t1, rfl, t1, _, 1, _, rfl, rfl, .inl (.inl (sAll _ _ g2)), atI_nat (j := 1) rfl, .ref t2, rfl, t2, _, 0, _, rfl, rfl, .inl (.inl (sAll _ _ g4)), atI_nat (j := 0) rfl, _, _, rfl, rfl, ?_⟩
      exact hQ _ s5
    intro H3 s4 hD2
    rw [bls_map] at hD2
    refine ⟨D2, _, rfl, .inl (.inl hD2), _, rfl, ?_⟩
    rw [all_map]
    have s5 : Same H H3 := s2.trans (s3.trans s4)
    cases hA : (List.range (ch.length - 1)).all (apartAt ws ch) with
    | false =>
      rw [hA, Bool.false_and] at q
      exact q H3 s5
    | true =>
    rw [hA, Bool.true_and] at q
    -- the stops, one behind another
    refine ⟨.ref ps, rfl, .ref ps, rfl, 1, rfl, ?_⟩
    dsimp only [tNoPart]
    refine cut1_tup (s5 _ _ hps) fun H4 p2 s6 h2 => ?_
    have hps4 : H4 ps = some (.tup (st.map V.int)) := s6 _ _ (s5 _ _ hps)
    refine ⟨ps, p2, st.map V.int, (st.map V.int).drop 1, rfl, .inr ⟨.inl (.inl hps4), .inl (.inl h2), fun D3 nD3 => ?_⟩⟩
    refine lc_vals (n := st.length - 1) (walk_zipT (xs := st.map V.int) (ys := (st.map V.int).drop 1) (by rw [List.length_drop, List.length_map]; exact zip_len _)) (fun i => .bl (riseAt st i)) (Same.refl _) nD3 (by omega) (fun H5 s => ⟨tup_same s hps4, tup_same s h2⟩) ?_ ?_
    · rintro i x H5 _ Qn hi s7 ⟨T, x1, x2, rfl, nT, rfl, e1, e2⟩ hQ
      have e1 : (st.map V.int)[i]? = some x1 := e1
      have e2 : ((st.map V.int).drop 1)[i]? = some x2 := e2
      rw [getI (by omega)] at e1
      rw [dropI (by omega)] at e2
      cases e1
      cases e2
      refine ⟨T, _, rfl, .inl (.inl upd_same), rfl, _, _, rfl, _, _, rfl, rfl, rfl, ?_⟩
      refine ⟨_, rfl, _, rfl, _, _, rfl, rfl, ?_⟩
      exact hQ _ (same_new nT)
    intro H5 s7 hD3
    rw [bls_map] at hD3
    refine ⟨D3, _, rfl, .inl (.inl hD3), _, rfl, ?_⟩
    rw [all_map]
    have s8 : Same H H5 := s5.trans (s6.trans s7)
    cases hB : (List.range (st.length - 1)).all (riseAt st) with
    | false =>
      rw [hB, Bool.false_and] at q
      exact q H5 s8
    | true =>
    rw [hB, Bool.true_and] at q
    -- each window has a stop
    refine ⟨.ref a, rfl, a, rfl, ⟨_, .inl (.inl (s8 _ _ hxs))⟩, fun D4 nD4 => ?_⟩
    refine lc_vals (n := xs.length) (walk_list (xs := xs)) (fun i => .bl (st.any (meets (wAt ws i)))) s8 nD4 (by rw [hP.len]; omega) (fun H6 s => .inl (.inl (s _ _ hxs))) ?_ ?_
    · rintro i x H6 _ Qn hi s9 ⟨rfl, hx⟩ hQ
      rw [hP.len] at hi
      obtain ⟨t, g1, g2⟩ := hP.at hi
      rw [hx] at g1
      cases g1
      refine ⟨t, _, rfl, .inl (.inl (s9 _ _ g2)), rfl, _, _, rfl, _, _, rfl, rfl, rfl, ?_⟩
      generalize wAt ws i = v at hQ g2
      refine ⟨.ref ps, rfl, ps, rfl, ⟨_, tup_same s9 hps⟩, fun D5 nD5 => ?_⟩
      refine lc_vals (n := (st.map V.int).length) (walk_tup (xs := st.map V.int)) (fun i => .bl (meets v (st.getD i 0))) (Same.refl _) nD5 (by rw [List.length_map]; omega) (fun H7 s => tup_same (s9.trans s) hps) ?_ ?_
      · rintro j x H7 _ Qm hj s10 ⟨rfl, hx⟩ hQm
        rw [List.length_map] at hj
        rw [getI hj] at hx
        cases hx
        generalize st.getD j 0 = c at hQm
        refine ⟨rfl, .int v.1, rfl, .int c, rfl, v.1, c, rfl, rfl, _, rfl, ite2 (fun e0 => ?_) (fun e0 => ?_)⟩
        · refine ⟨.int v.2, rfl, c, v.2, rfl, rfl, ?_⟩
          have r := hQm _ (Same.refl _)
          unfold meets at r
          rw [e0, Bool.true_and] at r
          exact r
        · have r := hQm _ (Same.refl _)
          unfold meets at r
          rw [Bool.eq_false_iff.mpr e0, Bool.false_and] at r
          exact r
      · intro H7 s10 hD5
        rw [List.length_map, bls_map] at hD5
        refine ⟨D5, _, rfl, .inl (.inl hD5), ?_⟩
        rw [any_map, any_range]
        exact hQ _ s10
    intro H6 s9 hD4
    rw [bls_map] at hD4
    refine ⟨D4, _, rfl, .inl (.inl hD4), ?_⟩
    rw [all_map, hP.len, all_rangeW (p := fun v => st.any (meets v))]
    exact q H6 s9
end
end K39
set_option autoImplicit false
namespace K39
open PySem PySem.Spec PyProof.Rows L2
open C8 (tCut pss_cut)
/-- the scope of the last comprehension of _law_takes -/
def scCoverL : Scope := { kind := .function, names := [(".0", .local), ("_law_window", .cell), ("any", .globalImplicit), ("_law_stops", .free)], isGenerator := false, isCoroutine := false }
theorem any_not {l : List Int} {p : Int → Bool} : (List.range l.length).any (fun i => !p (l.getD i 0)) = !l.all p := by
  rw [← all_range, List.not_all_eq_any_not]
theorem takes_left {ws : List Wd} {ch st : List Int} (h : ch.length = st.length) :
    takesB ws ch st = (ch.all (inR ws) && ((List.range (ch.length - 1)).all (fun i => apartAt ws ch i && riseAt st i) && coverB ws st)) := by
  unfold takesB
  rw [decide_eq_true h, Bool.true_and]
section
variable {P : Program} {w : World} {K : PySem.W.Frag} {mg : Str → Option Value} {base : Heap}
/-! ### _law_takes -/
abbrev teCoverL (K : PySem.W.Frag) : TE := tCB (rAny K) (tCons (tLc (iTup K (tVar 2)) (gName 5) tYes (tChain rLeI rLeI (teFst K 4 0) (tVar 5) (teFst K 4 1)) [5]) tNil)
theorem ok_ltakes {f : Addr} {fd : FuncData} {k : Nat} (B : Bl mg) (F : Fun K "_law_takes" "_law_takes" sLtakes f fd) : FnOk P w K mg base CX0 (k + 1) f fd ["_law_windows", "_law_chosen", "_law_stops"] spTakes := by
  refine F.ok scLtakes (fun vs H Q E h => ?_) (fun cdv A outer s H vs Q E hr h => ?_)
  · obtain ⟨a, pc, ps, ws, ch, st, rfl, _⟩ := h
    rfl
  · obtain ⟨a, pc, ps, ws, ch, st, rfl, hW, hwl, hpc, hcl, hps, hsl, q⟩ := h
    obtain ⟨xs, hxs, hP⟩ := hW
    refine ⟨_, pss_cons (ps_if (PW.pt (pw_or (pt_cmpR op_ne (pe_callB call_len_seq (by rfl) B.len PySem.boot_len (pa_cons (pv 1) pa_nil)) (pe_callB call_len_seq (by rfl) B.len PySem.boot_len (pa_cons (pv 2) pa_nil)) (nomark _))
          (pw_or1 (pt_val (pe_callB (cr_any rfl) (by rfl) B.any (by decide +kernel) (pa_cons
            (pe_lc (own := [("_law_k", 3)]) (g := gName 3) (tt := tYes) (te := tNotV (teIn K 3 0)) rfl scLtakes.nd (pi_tup (pv 1)) (blkOk_by (N := ["_law_windows", "_law_chosen", "_law_stops", "_law_k", "_law_window", "_law_stop"]) (sc := defScope sLtakes) (by decide +kernel))
              (fun _ _ _ _ _ => pg_name (i := 3) scLtakes.nd rfl (Or.inl rfl)) (fun _ _ _ _ _ => pts_nil)
              (fun _ _ _ _ _ => pe_not (pe_chain op_le op_lt pe_int (pv 3) (pe_callB call_len_seq (by rfl) B.len PySem.boot_len (pa_cons (pv 0) pa_nil))))) pa_nil))))))
        (pss_one (ps_ret pe_bl)) pss_nil)
      (pss_cons (ps_for PassesOwn.never rfl (pi_range1 (by rfl) B.range (pa_cons (pe_op op_sub (pe_callB call_len_seq (by rfl) B.len PySem.boot_len (pa_cons (pv 1) pa_nil)) pe_int) pa_nil)) (pg_name (i := 3) scLtakes.nd rfl (.inl rfl))
        (pss_one (ps_if (PW.pt (pw_or
            (pt_cmpR op_ge (pe_ix ix_tup (pe_ix ix_list (pv 0) (pe_ix ix_tup (pv 1) (pv 3) (fun _ _ => rfl)) (fun _ _ => rfl)) pe_int (fun _ _ => rfl))
              (pe_ix ix_tup (pe_ix ix_list (pv 0) (pe_ix ix_tup (pv 1) (pe_op op_add (pv 3) pe_int) (fun _ _ => rfl)) (fun _ _ => rfl)) pe_int (fun _ _ => rfl)) (nomark _))
            (pw_or1 (pt_cmpR op_ge (pe_ix ix_tup (pv 2) (pv 3) (fun _ _ => rfl)) (pe_ix ix_tup (pv 2) (pe_op op_add (pv 3) pe_int) (fun _ _ => rfl)) (nomark _)))))
          (pss_one (ps_ret pe_bl)) pss_nil)))
      (pss_one (ps_ret (pe_callB (cr_all rfl) (by rfl) B.all (by decide +kernel) (pa_cons
            (pe_lc (own := [("_law_window", 4)]) (g := gName 4) (tt := tYes) (te := teCoverL K) rfl scLtakes.nd (pi_list (pv 0))
              (blkOk_by (N := ["_law_windows", "_law_chosen", "_law_stops", "_law_k", "_law_window", "_law_stop"]) (sc := defScope sLtakes) (by decide +kernel))
              (fun _ _ _ _ _ => pg_name (i := 4) scLtakes.nd rfl (Or.inr rfl)) (fun _ _ _ _ _ => pts_nil)
              (fun _ _ _ _ _ => pe_callB (cr_any rfl) (by rfl) B.any (by decide +kernel) (pa_cons
                (pe_lc (own := [("_law_stop", 5)]) (g := gName 5) (tt := tYes) (te := tChain rLeI rLeI (teFst K 4 0) (tVar 5) (teFst K 4 1)) rfl scLtakes.nd (pi_tup (pv 2)) (blkOk_by (N := ["_law_windows", "_law_chosen", "_law_stops", "_law_k", "_law_window", "_law_stop"]) (sc := relS scCoverL (defScope sLtakes)) (by decide +kernel))
                  (fun _ _ _ _ _ => pg_name (i := 5) scLtakes.nd rfl (Or.inl rfl)) (fun _ _ _ _ _ => pts_nil)
                  (fun _ _ _ _ _ => pe_chain op_le op_le (pe_ix ix_tup (pv 4) pe_int (fun _ _ => rfl)) (pv 5) (pe_ix ix_tup (pv 4) pe_int (fun _ _ => rfl)))) pa_nil))) pa_nil))))), ?_⟩
    have hN : ch.length ≤ 1000 := by omega
    refine ⟨.ref pc, rfl, pc, _, rfl, .inr (.inl (.inl hpc)), .ref ps, rfl, ps, _, rfl, .inr (.inl (.inl hps)), rfl, _, rfl, ?_⟩
    by_cases hlen : ch.length = st.length
    rotate_left
    · have e : (!decide (V.int ((ch.map V.int).length : Nat) = V.int ((st.map V.int).length : Nat))) = true := by
        rw [decide_eq_false, Bool.not_false]
        intro z
        have z2 := V.int.inj z
        rw [List.length_map, List.length_map] at z2
        exact hlen (by omega)
      rw [e]
      have := q H (Same.refl H)
      rw [takes_len hlen] at this
      exact this
    have e : (!decide (V.int ((ch.map V.int).length : Nat) = V.int ((st.map V.int).length : Nat))) = false := by
      rw [decide_eq_true, Bool.not_true]
      rw [List.length_map, List.length_map, hlen]
    rw [e]
    rw [takes_left hlen] at q
    -- is an index out of range
    refine ⟨.ref pc, rfl, pc, rfl, ⟨_, .inl (.inl hpc)⟩, fun D nD => ?_⟩
    refine lc_vals (n := (ch.map V.int).length) (walk_tup (xs := ch.map V.int)) (fun i => .bl (!inR ws (ch.getD i 0))) (Same.refl H) nD (by rw [List.length_map]; exact hN) (fun H1 s1 => tup_same s1 hpc) ?_ ?_
    · rintro i x H1 _ Qn hi s1 ⟨rfl, hx⟩ hQ
      rw [List.length_map] at hi
      rw [getI hi] at hx
      cases hx
      generalize ch.getD i 0 = c at hQ
      refine ⟨rfl, .int c, rfl, 0, c, rfl, rfl, _, rfl, ite2 (fun e0 => ?_) (fun e0 => ?_)⟩
      · refine ⟨.ref a, rfl, a, xs, rfl, .inl (.inl (.inl (s1 _ _ hxs))), c, _, rfl, rfl, _, rfl, ?_⟩
        have r := hQ _ (Same.refl _)
        have e1 : inR ws c = decide (c < (xs.length : Int)) := by
          unfold inR
          rw [e0, Bool.true_and, hP.len]
        rw [e1] at r
        exact r
      · have r := hQ _ (Same.refl _)
        have e1 : inR ws c = false := by
          unfold inR
          rw [Bool.eq_false_iff.mpr e0, Bool.false_and]
        rw [e1] at r
        exact ⟨false, rfl, r⟩
    intro H1 s1 hD
    rw [List.length_map, bls_map] at hD
    refine ⟨D, _, rfl, .inl (.inl hD), _, rfl, ?_⟩
    rw [any_map, any_not]
    cases hR : ch.all (inR ws) with
    | false =>
      rw [hR, Bool.false_and] at q
      exact q H1 s1
    | true =>
    rw [hR, Bool.true_and] at q
    have hin : ∀ k ∈ ch, inR ws k = true := List.all_eq_true.mp hR
    -- the loop
    refine ⟨.ref pc, rfl, pc, _, rfl, .inr (tup_same s1 hpc), _, _, rfl, rfl, _, rfl, ?_, ?_, ?_⟩
    · rw [List.length_map]; omega
    · rw [List.length_map]; omega
    have en : (((ch.map V.int).length : Nat) - 1 : Int).toNat = ch.length - 1 := by rw [List.length_map]; omega
    rw [en]
    refine for_it walk_range (fun i σ H2 => ∃ y3, σ = [some (.ref a), some (.ref pc), some (.ref ps), y3, none, none] ∧ Same H1 H2 ∧ ∀ j, j < i → (apartAt ws ch j && riseAt st j) = true) ?_ ?_ ?_ ?_
    · exact ⟨none, rfl, Same.refl _, fun j hj => absurd hj (by omega)⟩
    · exact fun _ _ _ _ _ => trivial
    · rintro i x σ H2 H3 hi ⟨y3, rfl, s2, hbef⟩ ⟨rfl, rfl⟩
      have s3 : Same H H3 := s1.trans s2
      have hpc3 := tup_same (K := K) s3 hpc
      have hps3 := tup_same (K := K) s3 hps
      have hxs3 := s3 _ _ hxs
      obtain ⟨e0, e1⟩ := wIr hin (i := i) (by omega)
      obtain ⟨e2, e3⟩ := wIr hin (i := i + 1) (by omega)
      obtain ⟨t1, g1, g2⟩ := hP.at e1
      obtain ⟨t2, g3, g4⟩ := hP.at e3
      have i1 : (0 + (i : Int)) = ((i : Nat) : Int) := by omega
      have i2 : (0 + (i : Int) + 1) = ((i + 1 : Nat) : Int) := by omega
      have no : (apartAt ws ch i && riseAt st i) = false → takesB ws ch st = false := fun z => by
        rw [takes_left hlen, hR, Bool.true_and]
        have : (List.range (ch.length - 1)).all (fun i => apartAt ws ch i && riseAt st i) = false := by
          refine Bool.eq_false_iff.mpr fun z2 => ?_
          have := List.all_eq_true.mp z2 i (List.mem_range.mpr hi)
          rw [z] at this
          cases this
        rw [this, Bool.false_and]
      have q2 : takesB ws ch st = false → Q (.bl false) H3 := fun z => by
        rw [takes_left hlen, hR, Bool.true_and] at z
        rw [z] at q
        exact q H3 s3
      refine ⟨.ref a, rfl, .ref pc, rfl, _, rfl, pc, _, _, _, rfl, rfl, hpc3, at_of i1 (getI (by omega)), a, _, _, _, rfl, rfl, .inl (.inl hxs3), at_of e0 g1, t1, _, 1, _, rfl, rfl, .inl (.inl (s3 _ _ g2)), atI_nat (j := 1) rfl, ?_⟩
      refine ⟨.ref a, rfl, .ref pc, rfl, _, rfl, _, _, rfl, rfl, pc, _, _, _, rfl, rfl, hpc3, at_of i2 (getI (by omega)), a, _, _, _, rfl, rfl, .inl (.inl hxs3), at_of e2 g3, t2, _, 0, _, rfl, rfl, .inl (.inl (s3 _ _ g4)), atI_nat (j := 0) rfl, _, _, rfl, rfl, _, rfl, ite2 (fun e4 => ?_) (fun e4 => ?_)⟩
      · have e5 := of_decide_eq_true e4
        refine q2 (no ?_)
        have : apartAt ws ch i = false := by
          unfold apartAt
          exact decide_eq_false (by unfold wI; omega)
        rw [this, Bool.false_and]
      · have hA : apartAt ws ch i = true := by
          unfold apartAt
          rw [decide_eq_true_eq]
          have : ¬ (wAt ws (ch.getD (i + 1) 0).toNat).1 ≤ (wAt ws (ch.getD i 0).toNat).2 := fun z => e4 (decide_eq_true z)
          unfold wI
          omega
        refine ⟨.ref ps, rfl, _, rfl, ps, _, _, _, rfl, rfl, hps3, at_of i1 (getI (by omega)), .ref ps, rfl, _, rfl, _, _, rfl, rfl, ps, _, _, _, rfl, rfl, hps3, at_of i2 (getI (by omega)), _, _, rfl, rfl, _, rfl, ite2 (fun e6 => ?_) (fun e6 => ?_)⟩
        · have e7 := of_decide_eq_true e6
          refine q2 (no ?_)
          have : riseAt st i = false := by
            unfold riseAt
            exact decide_eq_false (by omega)
          rw [this, Bool.and_false]
        · have hB : riseAt st i = true := by
            unfold riseAt
            rw [decide_eq_true_eq]
            have : ¬ st.getD (i + 1) 0 ≤ st.getD i 0 := fun z => e6 (decide_eq_true z)
            omega
          refine ⟨_, rfl, s2, fun j hj => ?_⟩
          by_cases hji : j = i
          · rw [hji, hA, hB]
            rfl
          · exact hbef j (by omega)
    · rintro σ H2 ⟨y3, rfl, s2, hbef⟩
      have hall : (List.range (ch.length - 1)).all (fun i => apartAt ws ch i && riseAt st i) = true := List.all_eq_true.mpr fun i hi => hbef i (List.mem_range.mp hi)
      rw [hall, Bool.true_and] at q
      have s8 : Same H H2 := s1.trans s2
      refine ⟨.ref a, rfl, a, rfl, ⟨_, .inl (.inl (s8 _ _ hxs))⟩, fun D4 nD4 => ?_⟩
      refine lc_vals (n := xs.length) (walk_list (xs := xs)) (fun i => .bl (st.any (meets (wAt ws i)))) s8 nD4 (by rw [hP.len]; omega) (fun H6 s => .inl (.inl (s _ _ hxs))) ?_ ?_
      · rintro i x H6 _ Qn hi s9 ⟨rfl, hx⟩ hQ
        rw [hP.len] at hi
        obtain ⟨t, g1, g2⟩ := hP.at hi
        rw [hx] at g1
        cases g1
        generalize wAt ws i = v at hQ g2
        refine ⟨rfl, .ref ps, rfl, ps, rfl, ⟨_, tup_same s9 hps⟩, fun D5 nD5 => ?_⟩
        refine lc_vals (n := (st.map V.int).length) (walk_tup (xs := st.map V.int)) (fun i => .bl (meets v (st.getD i 0))) (Same.refl _) nD5 (by rw [List.length_map]; omega) (fun H7 s => tup_same (s9.trans s) hps) ?_ ?_
        · rintro j x H7 _ Qm hj s10 ⟨rfl, hx⟩ hQm
          rw [List.length_map] at hj
          rw [getI hj] at hx
          cases hx
          generalize st.getD j 0 = c at hQm
          have g5 := s10 _ _ (s9 _ _ g2)
          refine ⟨rfl, .ref t, rfl, t, _, 0, _, rfl, rfl, .inl (.inl g5), atI_nat (j := 0) rfl, .int c, rfl, v.1, c, rfl, rfl, _, rfl, ite2 (fun e0 => ?_) (fun e0 => ?_)⟩
          · refine ⟨.ref t, rfl, t, _, 1, _, rfl, rfl, .inl (.inl g5), atI_nat (j := 1) rfl, c, v.2, rfl, rfl, ?_⟩
            have r := hQm _ (Same.refl _)
            unfold meets at r
            rw [e0, Bool.true_and] at r
            exact r
          · have r := hQm _ (Same.refl _)
            unfold meets at r
            rw [Bool.eq_false_iff.mpr e0, Bool.false_and] at r
            exact r
        · intro H7 s10 hD5
          rw [List.length_map, bls_map] at hD5
          refine ⟨D5, _, rfl, .inl (.inl hD5), ?_⟩
          rw [any_map, any_range]
          exact hQ _ s10
      intro H6 s9 hD4
      rw [bls_map] at hD4
      refine ⟨D4, _, rfl, .inl (.inl hD4), ?_⟩
      rw [all_map, hP.len, all_rangeW (p := fun v => st.any (meets v))]
      exact q H6 s9
end
end K39
set_option autoImplicit false
namespace K39
open PySem PySem.Spec PyProof.Rows L2
open C8 (tCut pss_cut)
theorem rAt_get {R : List Pr} {i : Nat} (h : i < R.length) : R[i]? = some (rAt R i) := get_wAt h
section
variable {P : Program} {w : World} {K : PySem.W.Frag} {mg : Str → Option Value} {base : Heap}
/-! ### _law_most -/
def spMost : Sp := fun vs H Q _ => ∃ (a : Addr) (ws : List Wd), vs = [.ref a] ∧ Wn H a ws ∧ ws.length ≤ 100 ∧
  ∀ (H' : Hp) (R : List Pr), Same H H' → R.Perm (ws.map swapP) → R.Pairwise leP → Q (.int (mostF R)) H'
abbrev ttBefore (K : PySem.W.Frag) : TT := tTest (tOp rLtI (tOp (rIxT K) (tOp (rIxL K) (tVar 1) (tVar 6)) (tC (.int 0))) (tOp (rIxT K) (tOp (rIxL K) (tVar 1) (tVar 3)) (tC (.int 1))))
theorem ok_most {f : Addr} {fd : FuncData} {k : Nat} (B : Bl mg) (F : Fun K "_law_most" "_law_most" sMost f fd) : FnOk P w K mg base CX0 (k + 1) f fd ["_law_windows"] spMost := by
  refine F.ok scMost (fun vs H Q E h => ?_) (fun cdv A outer s H vs Q E hr h => ?_)
  · obtain ⟨a, ws, rfl, _⟩ := h
    rfl
  · obtain ⟨a, ws, rfl, hW, hwl, q⟩ := h
    obtain ⟨xs, hxs, hP⟩ := hW
    refine ⟨_, pss_cons (ps_set (i := 1) scMost.nd rfl (.inr rfl) (pe_callB cr_sortedPO (by rfl) B.sorted (by decide +kernel) (pa_cons
        (pe_lc (own := [("_law_window", 5)]) (g := gName 5) (tt := tYes) (te := tTup (tCons (teFst K 5 1) (tCons (teFst K 5 0) tNil))) rfl scMost.nd (pi_list (pv 0))
          (blkOk_by (N := ["_law_windows", "_law_ranked", "_law_counts", "_law_k", "_law_before", "_law_window", "_law_j"]) (sc := defScope sMost) (by decide +kernel))
          (fun _ _ _ _ _ => pg_name (i := 5) scMost.nd rfl (Or.inl rfl)) (fun _ _ _ _ _ => pts_nil)
          (fun _ _ _ _ _ => pe_tup (pa_cons (pe_ix ix_tup (pv 5) pe_int (fun _ _ => rfl)) (pa_cons (pe_ix ix_tup (pv 5) pe_int (fun _ _ => rfl)) pa_nil)))) pa_nil)))
      (pss_cons (ps_set (i := 2) scMost.nd rfl (.inr rfl) (pe_lst pa_nil))
      (pss_cons (ps_for PassesOwn.never rfl (pi_range1 (by rfl) B.range (pa_cons (pe_callB call_len_seq (by rfl) B.len PySem.boot_len (pa_cons (pv 1) pa_nil)) pa_nil)) (pg_name (i := 3) scMost.nd rfl (.inr rfl))
        (pss_cons (ps_setLc (i := 4) (own := [("_law_j", 6)]) (g := gName 6) (tt := ttBefore K) (te := teAt K 2 6) rfl scMost.nd rfl rfl (sw_true rfl rfl rfl (by decide +kernel)) (pi_range1 (by rfl) B.range (pa_cons (pv 3) pa_nil))
            (blkOk_by (N := ["_law_windows", "_law_ranked", "_law_counts", "_law_k", "_law_before", "_law_window", "_law_j"]) (sc := defScope sMost) (by decide +kernel))
            (fun _ _ _ _ _ => pg_name (i := 6) scMost.nd rfl (Or.inl rfl))
            (fun _ _ _ _ _ => pts_one (pt_cmpR op_lt (pe_ix ix_tup (pe_ix ix_list (pv 1) (pv 6) (fun _ _ => rfl)) pe_int (fun _ _ => rfl)) (pe_ix ix_tup (pe_ix ix_list (pv 1) (pv 3) (fun _ _ => rfl)) pe_int (fun _ _ => rfl)) (nomark _)))
            (fun _ _ _ _ _ => pe_ix ix_list (pv 2) (pv 6) (fun _ _ => rfl)))
        (pss_one (ps_expr (pe_bm PySem.F.plainAttrs_list PySem.F.slot_list_append PySem.F.type_list_append mt_append (pv 2) (pa_cons (pe_op op_add pe_int (pe_callB (cr_max rfl) (by rfl) B.max (by decide +kernel) (pa_cons (pe_op op_cat (pe_lst (pa_cons pe_int pa_nil)) (pv 4)) pa_nil))) pa_nil))))))
      (pss_one (ps_ret (pe_callB (cr_max rfl) (by rfl) B.max (by decide +kernel) (pa_cons (pe_op op_cat (pe_lst (pa_cons pe_int pa_nil)) (pv 2)) pa_nil)))))), ?_⟩
    -- the swapped pairs
    refine ⟨.ref a, rfl, a, rfl, ⟨_, .inl (.inl hxs)⟩, fun D nD => ?_⟩
    refine lc_it (walk_list (xs := xs)) (fun i H2 => Same H H2 ∧ ∃ acc, H2 D = some (.lst acc) ∧ acc.length = i ∧ PLs H2 acc ((ws.map swapP).take i)) ?_ ?_ ?_ ?_
    · exact ⟨same_new nD, [], upd_same, rfl, by rw [List.take_zero]; exact PLs.nil⟩
    · rintro i H2 _ ⟨sm, _⟩
      exact .inl (.inl (sm _ _ hxs))
    · rintro i x H9 H2 hi ⟨sm, acc, hD, el, hA⟩ ⟨rfl, hx⟩
      have hi2 : i < ws.length := by rw [← hP.len]; exact hi
      obtain ⟨t, g1, g2⟩ := hP.at hi2
      rw [hx] at g1
      cases g1
      have g3 := sm _ _ g2
      refine ⟨rfl, .ref t, rfl, t, _, 1, _, rfl, rfl, .inl (.inl g3), atI_nat (j := 1) rfl, .ref t, rfl, t, _, 0, _, rfl, rfl, .inl (.inl g3), atI_nat (j := 0) rfl, by show 2 ≤ sizeLine; decide, fun U nU => ?_⟩
      have hDU := (same_new (o := tupO (swapP (wAt ws i))) nU) _ _ hD
      refine ⟨acc, hDU, small1000 (by omega), same_away (sm.trans (same_new nU)) nD, acc ++ [.ref U], upd_same, by rw [List.length_append, el]; rfl, ?_⟩
      refine PLs.put ?_ hDU
      have eg : (ws.map swapP)[i]? = some (swapP (wAt ws i)) := by rw [List.getElem?_map, get_wAt hi2]; rfl
      rw [List.take_add_one, eg]
      exact (hA.same (same_new nU)).snoc upd_same
    · rintro H2 ⟨sm, acc, hD, el, hA⟩
      have e0 : xs.length = (ws.map swapP).length := by rw [hP.len, List.length_map]
      rw [e0, List.take_length] at hA
      refine ⟨D, acc, pairAt H2, rfl, .inl (.inl hD), sorted_all hA, fun ys p h1 h2 np => ?_⟩
      obtain ⟨hR, hperm, hsort⟩ := hA.sorted h1 h2
      generalize hRR : ys.map (pairAt H2) = R at hR hperm hsort
      have s3 : Same H (upd H2 p (.lst ys)) := sm.trans (same_new np)
      have hR3 : PLs (upd H2 p (.lst ys)) ys R := hR.same (same_new np)
      have hp3 : upd H2 p (.lst ys) p = some (.lst ys) := upd_same
      generalize upd H2 p (.lst ys) = H3 at s3 hR3 hp3
      have hRlen : R.length = ws.length := by rw [hperm.length_eq, List.length_map]
      have hyl : ys.length = R.length := hR3.len
      -- counts
      refine ⟨Nat.zero_le _, fun lc nc => ?_⟩
      have s4 : Same H3 (upd H3 lc (.lst [])) := same_new nc
      refine ⟨.ref p, rfl, p, ys, rfl, .inl (.inl (.inl (s4 _ _ hp3))), _, rfl, by omega, by omega, ?_⟩
      have en : (((ys.length : Nat) : Int)).toNat = ys.length := Int.toNat_natCast _
      rw [en]
      refine for_it walk_range (fun i σ H4 => ∃ y3 y4, σ = [some (.ref a), some (.ref p), some (.ref lc), y3, y4, none, none] ∧ Same H3 H4 ∧ H4 lc = some (.lst ((cnts R i).map V.int))) ?_ ?_ ?_ ?_
      · exact ⟨none, none, rfl, s4, upd_same⟩
      · exact fun _ _ _ _ _ => trivial
      · rintro i x σ H9 H4 hi ⟨y3, y4, rfl, sm4, hc⟩ ⟨rfl, rfl⟩
        have hi2 : i < R.length := by omega
        obtain ⟨ti, u1, u2⟩ := hR3.at hi2
        have u2 : H3 ti = some (tupO (rAt R i)) := u2
        have i1 : (0 + (i : Int)) = ((i : Nat) : Int) := by omega
        have hclen : (cnts R i).length = i := cnts_len R i
        -- before
        refine ⟨_, rfl, _, rfl, by omega, by omega, fun D2 nD2 => ?_⟩
        have en2 : (0 + (i : Int)).toNat = i := by omega
        rw [en2]
        refine lc_it walk_range (fun j H5 => Same H4 H5 ∧ H5 D2 = some (.lst (((List.range j).filter (isBefore R i)).map fun j => V.int ((cnts R i).getD j 0)))) ?_ ?_ ?_ ?_
        · exact ⟨same_new nD2, upd_same⟩
        · exact fun _ _ _ _ => trivial
        · rintro j x H9 H5 hj ⟨sm5, hD2⟩ ⟨rfl, rfl⟩
          have hj2 : j < R.length := by omega
          have s5 : Same H3 H5 := sm4.trans sm5
          obtain ⟨tj, v1, v2⟩ := hR3.at hj2
          have v2 : H3 tj = some (tupO (rAt R j)) := v2
          have j1 : (0 + (j : Int)) = ((j : Nat) : Int) := by omega
          have hp5 := s5 _ _ hp3
          refine ⟨rfl, .ref p, rfl, _, rfl, p, ys, _, _, rfl, rfl, .inl (.inl hp5), at_of j1 v1, tj, _, 0, _, rfl, rfl, .inl (.inl (s5 _ _ v2)), atI_nat (j := 0) rfl, ?_⟩
          refine ⟨.ref p, rfl, _, rfl, p, ys, _, _, rfl, rfl, .inl (.inl hp5), at_of i1 u1, ti, _, 1, _, rfl, rfl, .inl (.inl (s5 _ _ u2)), atI_nat (j := 1) rfl, _, _, rfl, rfl, _, rfl, ?_⟩
          show if isBefore R i j = true then _ else _
          cases hb : isBefore R i j with
          | true =>
            refine ⟨.ref lc, rfl, _, rfl, lc, _, _, _, rfl, rfl, .inl (.inl (sm5 _ _ hc)), at_of j1 (getI (by omega)), ?_⟩
            refine ⟨_, hD2, ?_, same_away sm5 nD2, ?_⟩
            · rw [List.length_map]
              have := List.length_filter_le (isBefore R i) (List.range j)
              rw [List.length_range] at this
              exact small1000 (by omega)
            · rw [upd_same, List.range_succ, List.filter_append, List.map_append]
              have e1 : [j].filter (isBefore R i) = [j] := List.filter_cons_of_pos hb
              rw [e1]
              rfl
          | false =>
            refine ⟨sm5, ?_⟩
            rw [hD2, List.range_succ, List.filter_append]
            have e1 : [j].filter (isBefore R i) = [] := List.filter_cons_of_neg (by rw [hb]; decide)
            rw [e1, List.append_nil]
        · rintro H5 ⟨sm5, hD2⟩
          have eB : ((List.range i).filter (isBefore R i)).map (fun j => V.int ((cnts R i).getD j 0)) = (befores R (cnts R i) i).map V.int := by
            unfold befores
            rw [List.map_map]
            rfl
          rw [eB] at hD2
          have bl : (befores R (cnts R i) i).length ≤ 100 := by
            unfold befores
            rw [List.length_map]
            have := List.length_filter_le (isBefore R i) (List.range i)
            rw [List.length_range] at this
            omega
          generalize hbf : befores R (cnts R i) i = bs at hD2 bl
          have hc5 := sm5 _ _ hc
          -- counts.append(1 + max([0] + before))
          refine ⟨.ref lc, rfl, .inl ⟨rfl, _, .inl (.inl hc5)⟩, by show 1 ≤ sizeLine; decide, fun z nz => ?_⟩
          have s6 : Same H5 (upd H5 z (.lst [.int 0])) := same_new nz
          refine ⟨.ref D2, rfl, z, D2, _, _, rfl, rfl, upd_same, s6 _ _ hD2, ?_, fun m nm => ?_⟩
          · rw [List.length_map]
            show 1 + bs.length ≤ sizeLine
            exact Nat.le_of_lt (small1000 (by omega))
          have s7 := s6.trans (same_new (o := .lst ([.int 0] ++ bs.map V.int)) nm)
          refine ⟨m, 0 :: bs, rfl, .inl (.inl upd_same), by rw [List.length_cons]; omega, fun x hx1 hx2 => ?_⟩
          have ex : x = mx bs := mx_uniq hx1 hx2
          subst ex
          refine ⟨_, _, rfl, rfl, lc, _, _, rfl, rfl, s7 _ _ hc5, ?_, ?_⟩
          · rw [List.length_map, hclen]
            exact small1000 (by omega)
          · refine ⟨_, _, rfl, same_away (sm4.trans (sm5.trans s7)) nc, ?_⟩
            rw [upd_same]
            show _ = some (HO.lst ((cnts R i ++ [1 + mx (befores R (cnts R i) i)]).map V.int))
            rw [hbf, List.map_append]
            rfl
      · rintro σ H4 ⟨y3, y4, rfl, sm4, hc⟩
        refine ⟨by show 1 ≤ sizeLine; decide, fun z nz => ?_⟩
        have s6 : Same H4 (upd H4 z (.lst [.int 0])) := same_new nz
        refine ⟨.ref lc, rfl, z, lc, _, _, rfl, rfl, upd_same, s6 _ _ hc, ?_, fun m nm => ?_⟩
        · rw [List.length_map, cnts_len]
          show 1 + ys.length ≤ sizeLine
          exact Nat.le_of_lt (small1000 (by omega))
        have s7 := s6.trans (same_new (o := .lst ([.int 0] ++ (cnts R ys.length).map V.int)) nm)
        refine ⟨m, 0 :: cnts R ys.length, rfl, .inl (.inl upd_same), by rw [List.length_cons]; omega, fun x hx1 hx2 => ?_⟩
        have ex : x = mx (cnts R ys.length) := mx_uniq hx1 hx2
        rw [hyl] at ex
        subst ex
        exact q _ R (s3.trans (sm4.trans s7)) hperm hsort
end
end K39
set_option autoImplicit false
set_option maxHeartbeats 4000000
namespace K39
open PySem PySem.Spec PyProof.Rows L2
/-! ### set(xs) of a list of ints -/
section
variable {P : Program} {w : World} {A : Around} {E : Value → Shared → Prop} {s : Shared}
/-- a set as it is made -/
abbrev bareSet (w : World) : Obj := { cls := .type "set", dict := none, data := .set #[] 0 (.fresh 0 0 (!w.params.followText "set-order")) }
theorem inits_set {l z : Addr} {items : Array Value} {ns : List Int} {R : Result → Shared → Prop} (hh : A.handled = none) (hl : s.heap.IsList l items) (hi : IntsAre items.toList ns)
    (hb : ns.length + 1 < scanBound) (hz : s.heap.get? z = some (bareSet w))
    (hR : ∀ (h' : Heap) (tk c : Nat), SetR w h' z (fun j => decide (j ∈ ns)) c → c ≤ ns.length → (∀ b o, b ≠ z → s.heap.get? b = some o → h'.get? b = some o) → R (.ok (.ret .none)) { s with heap := h', toks := tk }) :
    codeAny (model P w) A (.call (.builtin "set.__init__") ⟨[.ref z, .ref l], []⟩) R s := by
  have hcount : items.size = ns.length := by
    rw [← Array.length_toList]
    exact IntsAre.length hi
  have hzt : s.TypeIs (.ref z) "set" := ⟨_, hz, rfl⟩
  refine codeAny_call_builtin F.called_set.init.plain F.entry_set_init (check_set_init_1 hzt ?_)
  obtain ⟨⟨lc, ld, lv, ls⟩, hlo, hlc, n, hlv⟩ := id hl
  simp only at hlc hlv
  subst hlc hlv
  have f1 := F.sub_list_set
  have f2 := F.sub_list_frozenset
  have f3 : (Value.type "list" == Value.type "dict") = false := by decide
  have hlz : l ≠ z := fun e => by
    rw [e, hz] at hlo
    exact absurd (congrArg Obj.cls (Option.some.inj hlo)) (by simp)
  unfold Builtin.«set.__init__»
  unfold noKeywords Builtin.Frozenset.updateFrom
  generalize hpi : pyIter = G
  wp_walk
  subst hpi
  have zlt : z < s.heap.objs.size := Heap.lt_size hz
  have llt : l < s.heap.objs.size := Heap.lt_size hlo
  have hcalm : A.in1.in1.handled = none := by simpa using hh
  have item : ∀ (i : Nat) (v : Value), items[i]? = some v → ∃ k t, ns[i]? = some k ∧ v = .int k t := by
    intro i v hv
    have hin : i < ns.length := by
      rw [← hcount]
      exact (Array.getElem?_eq_some_iff.mp hv).1
    rw [← Array.getElem?_toList] at hv
    obtain ⟨t, e⟩ := IntsAre.int_at hi i v hv
    have e2 := List.getElem?_eq_getElem hin
    refine ⟨ns[i], t, e2, ?_⟩
    rw [e, List.getD_eq_getElem?_getD, e2]
    rfl
  refine wpAny_pyIter_list hl ?_
  refine wpAny_bind (wpAny_runValue ?_)
  have apart : l ≠ s.heap.objs.size := Nat.ne_of_lt llt
  have zout : z ∉ [s.heap.objs.size, l] := fun h => by
    rcases List.mem_cons.mp h with q | q
    · exact absurd q (Nat.ne_of_lt zlt)
    · exact hlz (List.mem_singleton.mp q).symm
  have begin_ : SetR w (s.heap.push { cls := .type "list_iterator", data := .fields #[.ref l, .int 0 0] }) z (fun j => decide (j ∈ ns.take 0)) 0 :=
    setR_new_at (Heap.get?_push_of_some _ hz)
  refine set_update_ints (Walks.list hcalm _ l apart items).toS z zout ns hcount hb item (items.size - 0) 0
    { s with heap := s.heap.push { cls := .type "list_iterator", data := .fields #[.ref l, .int 0 0] } } rfl (Nat.zero_le _)
    ⟨⟨_, Heap.get?_push_size _ rfl, rfl, rfl⟩, hl.push _⟩ ?_ ?_
  · exact ⟨0, Nat.le_refl 0, begin_⟩
  intro s2 c hm hc hS
  obtain ⟨h2, g2, d2, t2, o2⟩ := s2
  cases (show g2 = s.gens from hm.gens)
  cases (show d2 = s.drawn from hm.drawn)
  cases (show o2 = s.os from hm.os)
  refine wpAny_pure (show wpAny (model P w) A.in1 (ret Value.none) _ _ _ from wpAny_pure (hR h2 t2 c hS (by omega) fun b o nb e => ?_))
  have blt := Heap.lt_size e
  refine hm.heap b o (fun q => ?_) (Heap.get?_push_of_some _ e)
  rcases List.mem_cons.mp q with q | q
  · exact nb q
  · exact absurd (List.mem_singleton.mp q) (Nat.ne_of_lt blt)
/-- two readings of what a code's run ends with, joined -/
theorem ends_ret {M : Model} {A : Around} {c : Code} {Q : Value → Shared → Prop} {R : Result → Shared → Prop} {s : Shared} (hc : codeAny M A c (wants Q E) s)
    (h1 : ∀ v s1, Q v s1 → R (.ok (.ret v)) s1) (h2 : ∀ e s1, E e s1 → R (.error e) s1) : codeAny M A c R s :=
  codeAny_mono hc fun r s1 q => match r, q with
    | .error e, q => h2 e s1 q
    | .ok (.ret v), q => h1 v s1 q
/-- what is wanted behind set(xs): the new set's members, their number, the rest of the heap -/
def SetWish (w : World) (s : Shared) (ns : List Int) (Q : Value → Shared → Prop) : Prop :=
  ∀ (g : Heap) (tk c : Nat), SetR w g s.heap.objs.size (fun j => decide (j ∈ ns)) c → c ≤ ns.length →
    (∀ b o, s.heap.get? b = some o → g.get? b = some o) → Q (.ref s.heap.objs.size) { s with heap := g, toks := tk }
theorem call_set_ints {l : Addr} {items : Array Value} {ns : List Int} {Q : Value → Shared → Prop} (hh : A.handled = none) (hl : s.heap.IsList l items) (hi : IntsAre items.toList ns)
    (hb : ns.length + 1 < scanBound) (h : SetWish w s ns Q) : wpAny (model P w) A (call (.type "set") [.ref l]) Q E s := by
  obtain ⟨mro1, mro2, mro3⟩ := F.called_set.mro
  have made := F.called_set.made
  have sub := F.called_set.sub
  have nt := F.called_set.notType
  have can := F.called_set.canCreate
  have tc := F.typeCall_set_1 (.ref l)
  refine wpAny_call (codeAny_of_tree (show wpAny _ _ (callAny (.type "set") _) _ _ _ from wpAny_pure ⟨Code.quiet_builtin _ (by decide +kernel), codeAny_builtin F.entry_type_call ?_⟩))
  rw [Around.under_plain (weight_type_call_type "set" [.ref l] []) rfl]
  repeat (any_goals (first | assumption | wp_step))
  refine ends_ret (E := E) (code_set_led1 (.ref l) (Q₁ := fun v s1 => v = .ref s.heap.objs.size ∧ s1 = { s with heap := s.heap.push (bareSet w) }) ⟨rfl, rfl⟩) ?_ ?_
  · rintro v s1 ⟨rfl, rfl⟩
    have at_ : (s.heap.push (bareSet w)).get? s.heap.objs.size = some (bareSet w) := Heap.get?_push_size _ rfl
    have ty : Shared.TypeIs { s with heap := s.heap.push (bareSet w) } (.ref s.heap.objs.size) "set" := ⟨_, at_, rfl⟩
    have look := F.called_set.init.lookup
    have bind_ := F.called_set.init.bind (.ref s.heap.objs.size)
    repeat (any_goals (first | assumption | wp_step))
    have hh1 : A.in1.handled = none := by simpa using hh
    refine inits_set (z := s.heap.objs.size) hh1 (hl.push _) hi hb at_ fun h' tk c hS hc hk => ?_
    repeat (any_goals (first | assumption | wp_step))
    exact h h' tk c hS hc fun b o e => hk b o (Nat.ne_of_lt (Heap.lt_size e)) (Heap.get?_push_of_some _ e)
  · exact fun e s1 q => q
end
section
variable {X : Cx}
/-- set(xs), xs a list of ints -/
def rSetL (K : PySem.W.Frag) (w : World) : List V → Hp → VK → Prop := fun vs H Q => ∃ (a : Addr) (ns : List Int), vs = [.ref a] ∧ SqL K H a (ns.map V.int) ∧ ns.length ≤ 1000 ∧
  ∀ (p : Addr) (c : Nat), H p = none → c ≤ ns.length → Q (.ref p) (upd H p (SetO w p (fun j => decide (j ∈ ns)) c))
theorem cr_setL (hc : X.calm = true) : CallR X (.type "set") (rSetL X.K X.w) := by
  intro pins s σ H vs us Q I r h
  obtain ⟨a, ns, rfl, hq, hl, q⟩ := h
  rw [Vals.ref1 r]
  obtain ⟨its, rv, pl, _⟩ := I.list hq
  refine call_set_ints (ns := ns) (I.ok.hd hc) pl.isList (ints_of_vals rv) (by unfold scanBound; omega) fun h' tk c R hc2 kp => ?_
  have hn : H s.heap.objs.size = none := I.hok.fresh (Nat.le_refl _)
  exact ⟨.ref s.heap.objs.size, _, I.laid (t' := tk) kp (Nat.le_refl _) (setO_new R), rfl, q _ c hn hc2⟩
end
end K39
set_option autoImplicit false
namespace K39
open PySem PySem.Spec PyProof.Rows L2
open C8 (tCut pss_cut)
theorem stepL_len {ws : List Wd} {acc : Ch} {e : Int} {n : Nat} (h1 : acc.1.length ≤ n) (h2 : acc.2.length ≤ n) : (stepL ws acc e).1.length ≤ n + 1 ∧ (stepL ws acc e).2.length ≤ n + 1 := by
  unfold stepL
  cases freeOf ws acc.2 e with
  | nil => exact ⟨Nat.le_succ_of_le h1, Nat.le_succ_of_le h2⟩
  | cons k r =>
    show (acc.1 ++ [(k : Int)]).length ≤ n + 1 ∧ (acc.2 ++ [e]).length ≤ n + 1
    simp only [List.length_append, List.length_singleton]
    omega
theorem fold_len {ws : List Wd} : ∀ (E : List Int) (acc : Ch) (n : Nat), acc.1.length ≤ n → acc.2.length ≤ n → (E.foldl (stepL ws) acc).1.length ≤ n + E.length ∧ (E.foldl (stepL ws) acc).2.length ≤ n + E.length
  | [], acc, n, h1, h2 => ⟨h1, h2⟩
  | e :: E, acc, n, h1, h2 => by
    obtain ⟨a, b⟩ := stepL_len (ws := ws) (e := e) h1 h2
    have r := fold_len (ws := ws) E (stepL ws acc e) (n + 1) a b
    rw [List.length_cons]
    show (E.foldl (stepL ws) (stepL ws acc e)).1.length ≤ _ ∧ (E.foldl (stepL ws) (stepL ws acc e)).2.length ≤ _
    omega
theorem planL_len {ws : List Wd} {E : List Int} : (planL ws E).1.length ≤ E.length ∧ (planL ws E).2.length ≤ E.length := by
  have h := fold_len (ws := ws) E ([], []) 0 (Nat.le_refl _) (Nat.le_refl _)
  rw [Nat.zero_add] at h
  exact h
section
variable {P : Program} {w : World} {K : PySem.W.Frag} {mg : Str → Option Value} {base : Heap}
/-! ### _law_plan -/
def spLplan : Sp := fun vs H Q _ => ∃ (a : Addr) (ws : List Wd), vs = [.ref a] ∧ Wn H a ws ∧ ws.length ≤ 50 ∧
  ∀ (H' : Hp) (p pc ps : Addr) (E : List Int), Same H H' → E.Pairwise (· < ·) → (∀ e, e ∈ E ↔ ∃ v ∈ ws, v.2 = e) → E.length ≤ ws.length → H' p = some (.tup [.ref pc, .ref ps]) →
    H' pc = some (.tup ((planL ws E).1.map V.int)) → H' ps = some (.tup ((planL ws E).2.map V.int)) → Q (.ref p) H'
abbrev ttFree (K : PySem.W.Frag) : TT := tAnd (tTest (tOp rEq (tOp (rIxT K) (tOp (rIxL K) (tVar 0) (tVar 6)) (tC (.int 1))) (tVar 3)))
  (tOr (tTest (tOp rEq (tCB (rLenK K) (tCons (tVar 2) tNil)) (tC (.int 0))))
    (tTest (tOp (rI0 fun i j => .bl (decide (j < i))) (tOp (rIxT K) (tOp (rIxL K) (tVar 0) (tVar 6)) (tC (.int 0))) (tOp (rIxL K) (tVar 2) (tUn (rU fun i => .int (-i)) (tC (.int 1)))))))
theorem ok_lplan {f : Addr} {fd : FuncData} {k : Nat} (B : Bl mg) (F : Fun K "_law_plan" "_law_plan" sLplan f fd) : FnOk P w K mg base CX0 (k + 1) f fd ["_law_windows"] spLplan := by
  refine F.ok scLplan (fun vs H Q E h => ?_) (fun cdv A outer s H vs Q E hr h => ?_)
  · obtain ⟨a, ws, rfl, _⟩ := h
    rfl
  · obtain ⟨a, ws, rfl, hW, hwl, q⟩ := h
    obtain ⟨xs, hxs, hP⟩ := hW
    refine ⟨_, pss_cons (ps_set (i := 1) scLplan.nd rfl (.inl rfl) (pe_lst pa_nil))
      (pss_cons (ps_set (i := 2) scLplan.nd rfl (.inr rfl) (pe_lst pa_nil))
      (pss_cons (ps_for PassesOwn.never rfl (pi_list (pe_callB (r := rSortedSet w) (cr_sortedSet rfl) (by rfl) B.sorted (by decide +kernel) (pa_cons (pe_callTy (r := rSetL K w) (cr_setL rfl) (by rfl) B.set (by decide +kernel) (pa_cons
            (pe_lc (own := [("_law_window", 5)]) (g := gName 5) (tt := tYes) (te := teFst K 5 1) rfl scLplan.nd (pi_list (pv 0))
              (blkOk_by (N := ["_law_windows", "_law_chosen", "_law_stops", "_law_end", "_law_free", "_law_window", "_law_k"]) (sc := defScope sLplan) (by decide +kernel))
              (fun _ _ _ _ _ => pg_name (i := 5) scLplan.nd rfl (Or.inl rfl)) (fun _ _ _ _ _ => pts_nil)
              (fun _ _ _ _ _ => pe_ix ix_tup (pv 5) pe_int (fun _ _ => rfl))) pa_nil)) pa_nil)))
          (pg_name (i := 3) scLplan.nd rfl (.inr rfl))
        (pss_cons (ps_setLc (i := 4) (own := [("_law_k", 6)]) (g := gName 6) (tt := ttFree K) (te := tVar 6) rfl scLplan.nd rfl rfl (sw_true rfl rfl rfl (by decide +kernel))
            (pi_range1 (by rfl) B.range (pa_cons (pe_callB call_len_seq (by rfl) B.len PySem.boot_len (pa_cons (pv 0) pa_nil)) pa_nil))
            (blkOk_by (N := ["_law_windows", "_law_chosen", "_law_stops", "_law_end", "_law_free", "_law_window", "_law_k"]) (sc := defScope sLplan) (by decide +kernel))
            (fun _ _ _ _ _ => pg_name (i := 6) scLplan.nd rfl (Or.inl rfl))
            (fun _ _ _ _ _ => pts_one (PW.pt (pw_and (pt_cmpR op_eq (pe_ix ix_tup (pe_ix ix_list (pv 0) (pv 6) (fun _ _ => rfl)) pe_int (fun _ _ => rfl)) (pv 3) (nomark _))
              (pw_and1 (PW.pt (pw_or (pt_cmpR op_eq (pe_callB call_len_seq (by rfl) B.len PySem.boot_len (pa_cons (pv 2) pa_nil)) pe_int (nomark _))
                (pw_or1 (pt_cmpR op_gt (pe_ix ix_tup (pe_ix ix_list (pv 0) (pv 6) (fun _ _ => rfl)) pe_int (fun _ _ => rfl)) (pe_ix ix_list (pv 2) (pe_un un_neg pe_int) (fun _ _ => rfl)) (nomark _)))))))))
            (fun _ _ _ _ _ => pv 6))
        (pss_one (ps_if (pt_cmpR op_gt (pe_callB call_len_seq (by rfl) B.len PySem.boot_len (pa_cons (pv 4) pa_nil)) pe_int (nomark _))
          (pss_cons (ps_expr (pe_bm PySem.F.plainAttrs_list PySem.F.slot_list_append PySem.F.type_list_append mt_append (pv 1) (pa_cons (pe_ix ix_list (pv 4) pe_int (fun _ _ => rfl)) pa_nil)))
          (pss_one (ps_expr (pe_bm PySem.F.plainAttrs_list PySem.F.slot_list_append PySem.F.type_list_append mt_append (pv 2) (pa_cons (pv 3) pa_nil))))) pss_nil))))
      (pss_one (ps_ret (pe_tup (pa_cons (pe_callTy call_tuple_of (by rfl) B.tuple (by decide +kernel) (pa_cons (pv 1) pa_nil)) (pa_cons (pe_callTy call_tuple_of (by rfl) B.tuple (by decide +kernel) (pa_cons (pv 2) pa_nil)) pa_nil))))))), ?_⟩
    have hz : sizeLine = 16777216 := sizeLine_eq
    -- chosen, stops
    refine ⟨Nat.zero_le _, fun lc nc => ⟨Nat.zero_le _, fun ls ns => ?_⟩⟩
    have s1 : Same H (upd H lc (.lst [])) := same_new nc
    have s2 : Same H (upd (upd H lc (.lst [])) ls (.lst [])) := s1.trans (same_new ns)
    have ncs : lc ≠ ls := fun e => by rw [← e, upd_same] at ns; cases ns
    have nls : H ls = none := s1.free ns
    have hc0 : upd (upd H lc (.lst [])) ls (.lst []) lc = some (.lst []) := by rw [upd_ne ncs, upd_same]
    have hs0 : upd (upd H lc (.lst [])) ls (.lst []) ls = some (.lst []) := upd_same
    generalize upd (upd H lc (.lst [])) ls (.lst []) = H2 at s2 hc0 hs0
    -- the ends
    refine ⟨.ref a, rfl, a, rfl, ⟨_, .inl (.inl (s2 _ _ hxs))⟩, fun D nD => ?_⟩
    refine lc_vals (n := xs.length) (walk_list (xs := xs)) (fun i => .int (wAt ws i).2) (Same.refl H2) nD (by rw [hP.len]; omega) (fun H6 s => .inl (.inl (s _ _ (s2 _ _ hxs)))) ?_ ?_
    · rintro i x H9 H6 Qn hi s9 ⟨rfl, hx⟩ hQ
      rw [hP.len] at hi
      obtain ⟨t, g1, g2⟩ := hP.at hi
      rw [hx] at g1
      cases g1
      exact ⟨rfl, .ref t, rfl, t, _, 1, _, rfl, rfl, .inl (.inl (s9 _ _ (s2 _ _ g2))), atI_nat (j := 1) rfl, hQ _ (Same.refl _)⟩
    intro H3 s3 hD
    have eE : (List.range xs.length).map (fun i => V.int (wAt ws i).2) = ((List.range ws.length).map (fun i => (wAt ws i).2)).map V.int := by
      rw [List.map_map, hP.len]
      rfl
    rw [eE] at hD
    generalize hends : (List.range ws.length).map (fun i => (wAt ws i).2) = ends at hD
    have elen : ends.length = ws.length := by rw [← hends, List.length_map, List.length_range]
    have emem : ∀ e, e ∈ ends ↔ ∃ v ∈ ws, v.2 = e := fun e => by
      rw [← hends, List.mem_map]
      constructor
      · rintro ⟨i, hi, r⟩
        exact ⟨_, wAt_mem (List.mem_range.mp hi), r⟩
      · rintro ⟨v, hv, r⟩
        obtain ⟨i, hi, r2⟩ := List.mem_iff_getElem.mp hv
        exact ⟨i, List.mem_range.mpr hi, by rw [wAt_get (by rw [List.getElem?_eq_getElem hi, r2])]; exact r⟩
    refine ⟨D, ends, rfl, .inl (.inl hD), by omega, fun p c np hc => ?_⟩
    have s4 : Same H3 (upd H3 p (SetO w p (fun j => decide (j ∈ ends)) c)) := same_new np
    refine ⟨p, _, c, rfl, upd_same, by omega, fun E p2 hE hm hEl np2 => ?_⟩
    have hm2 : ∀ e, e ∈ E ↔ ∃ v ∈ ws, v.2 = e := fun e => by rw [hm e, decide_eq_true_eq, emem e]
    have hEl2 : E.length ≤ ws.length := by omega
    have s5 := s4.trans (same_new (o := .lst (E.map V.int)) np2)
    have hp2 : upd (upd H3 p (SetO w p (fun j => decide (j ∈ ends)) c)) p2 (.lst (E.map V.int)) p2 = some (.lst (E.map V.int)) := upd_same
    have s6 : Same H2 (upd (upd H3 p (SetO w p (fun j => decide (j ∈ ends)) c)) p2 (.lst (E.map V.int))) := s3.trans s5
    have np2c : p2 ≠ lc := (ne_of_none (s4 _ _ (s3 _ _ hc0)) np2).symm
    have np2s : p2 ≠ ls := (ne_of_none (s4 _ _ (s3 _ _ hs0)) np2).symm
    generalize upd (upd H3 p (SetO w p (fun j => decide (j ∈ ends)) c)) p2 (.lst (E.map V.int)) = H4 at s5 hp2 s6
    have hc4 := s6 _ _ hc0
    have hs4 := s6 _ _ hs0
    have sH4 : Same H H4 := s2.trans s6
    clear np np2 s4 s5 hD s3 s6 nD hc0 hs0
    -- the loop
    refine ⟨p2, rfl, ⟨_, .inl (.inl hp2)⟩, ?_⟩
    refine for_it (walk_list (xs := E.map V.int)) (fun i σ H5 => ∃ y3 y4, σ = [some (.ref a), some (.ref lc), some (.ref ls), y3, y4, none, none] ∧ Same H H5 ∧ H5 p2 = some (.lst (E.map V.int)) ∧
      ∃ acc : Ch, acc = (E.take i).foldl (stepL ws) ([], []) ∧ acc.1.length ≤ i ∧ acc.2.length ≤ i ∧ H5 lc = some (.lst (acc.1.map V.int)) ∧ H5 ls = some (.lst (acc.2.map V.int))) ?_ ?_ ?_ ?_
    · exact ⟨none, none, rfl, sH4, hp2, ([], []), by rw [List.take_zero]; rfl, Nat.le_refl _, Nat.le_refl _, hc4, hs4⟩
    · rintro i σ H5 _ ⟨_, _, _, _, h, _⟩
      exact .inl (.inl h)
    · rintro i x σ H9 H5 hi ⟨y3, y4, rfl, sm, hp5, acc, eacc, el1, el2, hc, hs⟩ ⟨rfl, hx⟩
      rw [List.length_map] at hi
      rw [List.getElem?_map, List.getElem?_eq_getElem hi] at hx
      have hx : V.int E[i] = x := Option.some.inj hx
      subst hx
      have hE1 : E[i]? = some E[i] := List.getElem?_eq_getElem hi
      generalize E[i] = e at hE1
      have enext : (E.take (i + 1)).foldl (stepL ws) ([], []) = stepL ws acc e := by rw [fold_take hE1, ← eacc]
      have hxs5 := sm _ _ hxs
      -- the free ones
      refine ⟨.ref a, rfl, a, xs, rfl, .inl (.inl (.inl hxs5)), _, rfl, by rw [hP.len]; omega, by rw [hP.len]; omega, fun D2 nD2 => ?_⟩
      have en : (((xs.length : Nat) : Int)).toNat = ws.length := by rw [Int.toNat_natCast, hP.len]
      rw [en]
      refine lc_it walk_range (fun j H6 => Same H5 H6 ∧ H6 D2 = some (.lst (((List.range j).filter (fun k => decide ((wAt ws k).2 = e) && canTake ws acc.2 k)).map fun j => V.int (j : Nat)))) ?_ ?_ ?_ ?_
      · exact ⟨same_new nD2, upd_same⟩
      · exact fun _ _ _ _ => trivial
      · rintro j x H9 H6 hj ⟨sm6, hD2⟩ ⟨rfl, rfl⟩
        have s7 : Same H H6 := sm.trans sm6
        obtain ⟨tj, v1, v2⟩ := hP.at hj
        have v3 := s7 _ _ v2
        have hxs6 := s7 _ _ hxs
        have hs6 := sm6 _ _ hs
        have j1 : (0 + (j : Int)) = ((j : Nat) : Int) := by omega
        generalize hb : (decide ((wAt ws j).2 = e) && canTake ws acc.2 j) = b
        have fin1 : b = true → ∃ acc', H6 D2 = some (.lst acc') ∧ acc'.length < sizeLine ∧ Same H5 (upd H6 D2 (.lst (acc' ++ [V.int (0 + (j : Int))]))) ∧
            upd H6 D2 (.lst (acc' ++ [V.int (0 + (j : Int))])) D2 = some (.lst (((List.range (j + 1)).filter (fun k => decide ((wAt ws k).2 = e) && canTake ws acc.2 k)).map fun j => V.int (j : Nat))) := fun hb1 => by
          rw [hb1] at hb
          refine ⟨_, hD2, ?_, same_away sm6 nD2, ?_⟩
          · rw [List.length_map]
            have := List.length_filter_le (fun k => decide ((wAt ws k).2 = e) && canTake ws acc.2 k) (List.range j)
            rw [List.length_range] at this
            exact small1000 (by omega)
          · have e1 : [j].filter (fun k => decide ((wAt ws k).2 = e) && canTake ws acc.2 k) = [j] := List.filter_cons_of_pos hb
            rw [upd_same, List.range_succ, List.filter_append, List.map_append, e1, j1]
            rfl
        have fin0 : b = false → Same H5 H6 ∧ H6 D2 = some (.lst (((List.range (j + 1)).filter (fun k => decide ((wAt ws k).2 = e) && canTake ws acc.2 k)).map fun j => V.int (j : Nat))) := fun hb1 => by
          rw [hb1] at hb
          refine ⟨sm6, ?_⟩
          have e1 : [j].filter (fun k => decide ((wAt ws k).2 = e) && canTake ws acc.2 k) = [] := List.filter_cons_of_neg (by rw [hb]; decide)
          rw [hD2, List.range_succ, List.filter_append, e1, List.append_nil]
        refine ⟨rfl, .ref a, rfl, _, rfl, a, xs, _, _, rfl, rfl, .inl (.inl hxs6), at_of j1 v1, tj, _, 1, _, rfl, rfl, .inl (.inl v3), atI_nat (j := 1) rfl, .int e, rfl, rfl, _, rfl, ?_⟩
        by_cases h1 : (wAt ws j).2 = e
        rotate_left
        · have z : decide (V.int (wAt ws j).2 = V.int e) = false := decide_eq_false fun z => h1 (V.int.inj z)
          have zb : b = false := by rw [← hb, decide_eq_false h1, Bool.false_and]
          rw [z]
          exact fin0 zb
        have z : decide (V.int (wAt ws j).2 = V.int e) = true := by rw [h1, decide_eq_true rfl]
        rw [z]
        rw [decide_eq_true h1, Bool.true_and] at hb
        refine ⟨.ref ls, rfl, ls, _, rfl, .inl (.inl (.inl hs6)), rfl, _, rfl, ?_⟩
        by_cases h2 : acc.2 = []
        · have z2 : decide (V.int ((acc.2.map V.int).length : Nat) = V.int 0) = true := by rw [h2]; rfl
          rw [z2]
          exact ⟨_, rfl, fin1 (by rw [← hb]; unfold canTake; rw [h2]; rfl)⟩
        have z2 : decide (V.int ((acc.2.map V.int).length : Nat) = V.int 0) = false := by
          refine decide_eq_false fun z => h2 ?_
          have z2 := V.int.inj z
          rw [List.length_map] at z2
          exact List.length_eq_zero_iff.mp (by omega)
        rw [z2]
        have z3 : acc.2.isEmpty = false := by
          cases h : acc.2 with
          | nil => exact absurd h h2
          | cons x r => rfl
        refine ⟨.ref a, rfl, _, rfl, a, xs, _, _, rfl, rfl, .inl (.inl hxs6), at_of j1 v1, tj, _, 0, _, rfl, rfl, .inl (.inl v3), atI_nat (j := 0) rfl, ?_⟩
        refine ⟨.ref ls, rfl, 1, rfl, ls, _, -1, _, rfl, rfl, .inl (.inl hs6), last_int h2, _, _, rfl, rfl, _, rfl, ?_⟩
        unfold canTake at hb
        rw [z3, Bool.false_or] at hb
        rw [hb]
        cases b with
        | true => exact ⟨_, rfl, fin1 rfl⟩
        | false => exact fin0 rfl
      · rintro H6 ⟨sm6, hD2⟩
        have ef : ((List.range ws.length).filter (fun k => decide ((wAt ws k).2 = e) && canTake ws acc.2 k)) = freeOf ws acc.2 e := rfl
        rw [ef] at hD2
        have est : stepL ws acc e = pick1 acc e (freeOf ws acc.2 e) := rfl
        have flen : (freeOf ws acc.2 e).length ≤ ws.length := by
          have := List.length_filter_le (fun k => decide ((wAt ws k).2 = e) && canTake ws acc.2 k) (List.range ws.length)
          rw [List.length_range] at this
          exact this
        obtain ⟨l1, l2⟩ := stepL_len (ws := ws) (e := e) el1 el2
        rw [← enext] at l1 l2
        rw [← enext] at est
        generalize freeOf ws acc.2 e = fr at hD2 est flen
        have hc6 := sm6 _ _ hc
        have hs6 := sm6 _ _ hs
        have hp6 := sm6 _ _ hp5
        refine ⟨.ref D2, rfl, D2, _, rfl, .inl (.inl (.inl hD2)), _, _, rfl, rfl, _, rfl, ?_⟩
        cases fr with
        | nil => exact ⟨_, _, rfl, sm.trans sm6, hp6, acc, est.symm, by omega, by omega, hc6, hs6⟩
        | cons k0 r =>
          have z : decide ((0 : Int) < ((List.map (fun j => V.int ((j : Nat) : Int)) (k0 :: r)).length : Nat)) = true := by
            rw [decide_eq_true_eq, List.length_map, List.length_cons]
            omega
          rw [z]
          have est : (E.take (i + 1)).foldl (stepL ws) ([], []) = (acc.1 ++ [(k0 : Int)], acc.2 ++ [e]) := est
          refine ⟨.ref lc, rfl, .inl ⟨rfl, _, .inl (.inl hc6)⟩, .ref D2, rfl, D2, _, 0, _, rfl, rfl, .inl (.inl hD2), atI_nat (j := 0) rfl, lc, _, _, rfl, rfl, hc6, by rw [List.length_map]; exact small1000 (by omega), ?_⟩
          have hs7 : upd H6 lc (.lst (acc.1.map V.int ++ [V.int (k0 : Int)])) ls = some (.lst (acc.2.map V.int)) := by rw [upd_ne ncs.symm]; exact hs6
          refine ⟨.ref ls, rfl, .inl ⟨rfl, _, .inl (.inl hs7)⟩, .int e, rfl, ls, _, _, rfl, rfl, hs7, by rw [List.length_map]; exact small1000 (by omega), ?_⟩
          refine ⟨_, _, rfl, same_away (same_away (sm.trans sm6) nc) nls, ?_, _, rfl, l1, l2, ?_, ?_⟩
          · rw [upd_ne np2s, upd_ne np2c]
            exact hp6
          · rw [upd_ne ncs, upd_same, est, List.map_append]
            rfl
          · rw [upd_same, est, List.map_append]
            rfl
    · rintro σ H5 ⟨y3, y4, rfl, sm, hp5, acc, eacc, el1, el2, hc, hs⟩
      rw [List.length_map, List.take_length] at eacc
      subst eacc
      refine ⟨.ref lc, rfl, lc, _, rfl, .inl ⟨.inl (.inl hc), fun pc npc => ?_⟩⟩
      have t5 : Same H5 (upd H5 pc (.tup ((planL ws E).1.map V.int))) := same_new npc
      refine ⟨.ref ls, rfl, ls, _, rfl, .inl ⟨.inl (.inl (t5 _ _ hs)), fun ps nps => ?_⟩⟩
      have t6 : Same (upd H5 pc (.tup ((planL ws E).1.map V.int))) (upd (upd H5 pc (.tup ((planL ws E).1.map V.int))) ps (.tup ((planL ws E).2.map V.int))) := same_new nps
      refine ⟨by show 2 ≤ sizeLine; decide, fun pp npp => ?_⟩
      have t7 := same_new (o := .tup [.ref pc, .ref ps]) npp
      exact q _ pp pc ps E (sm.trans (t5.trans (t6.trans t7))) hE hm2 hEl2 upd_same (t7 _ _ (t6 _ _ upd_same)) (t7 _ _ upd_same)
end
end K39
set_option autoImplicit false
namespace K39
open PySem PySem.Spec PyProof.Rows L2
open C8 (tCut pss_cut)
/-! ### data that is compared -/
def dInts (l : List Int) : PyData := .tuple (l.map PyData.int)
def dPlan (acc : Ch) : PyData := .tuple [dInts acc.1, dInts acc.2]
def dWin (v : Wd) : PyData := .tuple [.int v.1, .int v.2]
def dWins (ws : List Wd) : PyData := .list (ws.map dWin)
theorem lay_ints : ∀ l : List Int, PyData.canLayAll0 (l.map PyData.int) = true
  | [] => by simp [PyData.canLayAll0]
  | x :: r => by simp [PyData.canLayAll0, PyData.canLay0, lay_ints r]
theorem lay_wins : ∀ ws : List Wd, PyData.canLayAll0 (ws.map dWin) = true
  | [] => by simp [PyData.canLayAll0]
  | v :: r => by simp [PyData.canLayAll0, PyData.canLay0, dWin, lay_wins r]
theorem deep_ints : ∀ l : List Int, PyData.depthAll (l.map PyData.int) ≤ 1
  | [] => by simp [PyData.depthAll]
  | x :: r => by
    have := deep_ints r
    simp [PyData.depthAll, PyData.depth]
    omega
theorem deep_wins : ∀ ws : List Wd, PyData.depthAll (ws.map dWin) ≤ 3
  | [] => by simp [PyData.depthAll]
  | v :: r => by
    have := deep_wins r
    simp [PyData.depthAll, PyData.depth, dWin]
    omega
theorem shaped_plan (acc : Ch) : SeqAt.shaped (dPlan acc) = true := by
  have h1 := deep_ints acc.1
  have h2 := deep_ints acc.2
  unfold SeqAt.shaped dPlan dInts
  simp [PyData.canLay0, PyData.canLayAll0, PyData.depth, PyData.depthAll, lay_ints]
  omega
theorem shaped_wins (ws : List Wd) : SeqAt.shaped (dWins ws) = true := by
  have h1 := deep_wins ws
  unfold SeqAt.shaped dWins
  simp [PyData.canLay0, PyData.depth, lay_wins]
  omega
theorem eqv_self {d : PyData} (h : SeqAt.shaped d = true) : PyData.eqv d d = true := SeqAt.eqv_refl d (SeqAt.canLay_of_shaped h)
theorem dp_ints {K : PySem.W.Frag} {H : Hp} : ∀ l : List Int, DpAll K H (l.map V.int) (l.map PyData.int)
  | [] => .nil
  | x :: r => .cons (.int x) (dp_ints r)
theorem dp_plan {K : PySem.W.Frag} {H : Hp} {p pc ps : Addr} {acc : Ch} (h : H p = some (.tup [.ref pc, .ref ps])) (h1 : H pc = some (.tup (acc.1.map V.int))) (h2 : H ps = some (.tup (acc.2.map V.int))) : Dp K H (.ref p) (dPlan acc) :=
  .tup (.inl (.inl h)) (.cons (.tup (.inl (.inl h1)) (dp_ints _)) (.cons (.tup (.inl (.inl h2)) (dp_ints _)) .nil))
theorem dp_pairs {K : PySem.W.Frag} {H : Hp} : ∀ (xs : List V) (ws : List Wd), PLs H xs ws → DpAll K H xs (ws.map dWin)
  | [], [], _ => .nil
  | [], _ :: _, h => by
    have := h.len
    simp at this
  | _ :: _, [], h => by
    have := h.len
    simp at this
  | x :: xs, v :: ws, h => by
    obtain ⟨t, e1, e2⟩ := h.get 0 v rfl
    have e1 : x = .ref t := Option.some.inj e1
    subst e1
    refine .cons (.tup (.inl (.inl e2)) (.cons (.int _) (.cons (.int _) .nil))) (dp_pairs xs ws ⟨?_, fun i p hp => h.get (i + 1) p hp⟩)
    have := h.len
    simpa using this
theorem dp_wins {K : PySem.W.Frag} {H : Hp} {a : Addr} {xs : List V} {ws : List Wd} (h : H a = some (.lst xs)) (hP : PLs H xs ws) : Dp K H (.ref a) (dWins ws) := .lst (.inl (.inl h)) (dp_pairs xs ws hP)
end K39
set_option autoImplicit false
namespace K39
open PySem PySem.Spec PyProof.Rows L2
open C8 (tCut pss_cut)
theorem PLs.but {d c : Addr} {H H' : Hp} {xs : List V} {ps : List (Int × Int)} (h : PLs H xs ps) (hd : StOk H d c) (s : SameBut d H H') : PLs H' xs ps := h.mono fun t p e => s.tup hd e
theorem Wn.but {d c a : Addr} {H H' : Hp} {ws : List Wd} (h : Wn H a ws) (hd : StOk H d c) (s : SameBut d H H') : Wn H' a ws := by
  obtain ⟨xs, h1, h2⟩ := h
  exact ⟨xs, s.at hd h1, h2.but hd s⟩
section
variable {P : Program} {w : World} {K : PySem.W.Frag} {mg : Str → Option Value} {base : Heap}
/-! ### law -/
def spLaw (K : PySem.W.Frag) : Sp := fun vs H Q _ => ∃ (a : Addr) (ns : List Int), vs = [.ref a] ∧ SqL K H a (ns.map V.int) ∧ ns.length ≤ 63 ∧ ∀ H', Q (.bl true) H'
/-- a def of the text, as its callers know it -/
structure Known (K : PySem.W.Frag) (mg : Str → Option Value) (x : Str) (st : Stmt) (ps : List Str) (f : Addr) (fd : FuncData) : Prop where
  F : Fun K x x st f fd
  b : Binds K fd ps []
  g : mg x = some (.ref f)
/-- between the turns of the first loop -/
def MidL (d c a s0 : Addr) (i : Nat) (σ : L2.St) (H : Hp) : Prop :=
  ∃ y3 y4 xs ws, σ = [some (.ref s0), some (.ref d), some (.ref a), y3, y4, none, none, none, none, none] ∧ StOk H d c ∧ H a = some (.lst xs) ∧ PLs H xs ws ∧ ws.length = i ∧ ∀ v ∈ ws, v.1 ≤ v.2
/-- what is known behind the first two judgements -/
def MidM (d c a s0 b p : Addr) (ws : List Wd) (y3 y4 : Option V) (σ : L2.St) (H : Hp) : Prop :=
  ∃ (pc ps : Addr) (ch st : List Int), σ = [some (.ref s0), some (.ref d), some (.ref a), y3, y4, some (.ref b), some (.ref p), some (.ref pc), some (.ref ps), none] ∧ StOk H d c ∧ Wn H a ws ∧
    H pc = some (.tup (ch.map V.int)) ∧ ch.length ≤ 21 ∧ H ps = some (.tup (st.map V.int)) ∧ st.length ≤ 20
def MidN (d c a s0 b p : Addr) (ws : List Wd) (y3 y4 : Option V) (σ : L2.St) (H : Hp) : Prop :=
  ∃ (pc ps : Addr) (ch st : List Int), σ = [some (.ref s0), some (.ref d), some (.ref a), y3, y4, some (.ref b), some (.ref p), some (.ref pc), some (.ref ps), none] ∧ StOk H d c ∧ Wn H a ws ∧
    H pc = some (.tup (ch.map V.int)) ∧ ch.length ≤ 21 ∧ H ps = some (.tup (st.map V.int)) ∧ st.length ≤ 21
theorem ok_law {f f1 f2 f4 f5 f6 f8 f9 f10 f11 f12 : Addr} {fd fd1 fd2 fd4 fd5 fd6 fd8 fd9 fd10 fd11 fd12 : FuncData} (B : Bl mg) (F : Fun K "law" "law" sLaw f fd)
    (k1 : Known K mg "plan" sPlan ["windows"] f1 fd1) (k2 : Known K mg "takes_plan" sTakes ["windows", "chosen", "stops"] f2 fd2) (k4 : Known K mg "_law_start" sStart ["_law_script"] f4 fd4)
    (k5 : Known K mg "_law_draw" sDraw ["_law_state", "_law_bound"] f5 fd5) (k6 : Known K mg "_law_pick" sPick ["_law_state", "_law_things"] f6 fd6) (k8 : Known K mg "_law_is" sIs ["_law_actual", "_law_due"] f8 fd8)
    (k9 : Known K mg "_law_plan" sLplan ["_law_windows"] f9 fd9) (k10 : Known K mg "_law_most" sMost ["_law_windows"] f10 fd10) (k11 : Known K mg "_law_takes" sLtakes ["_law_windows", "_law_chosen", "_law_stops"] f11 fd11)
    (k12 : Known K mg "_law_spoilt" sSpoilt ["_law_state", "_law_numbers"] f12 fd12) : FnOk P w K mg base CX0 3 f fd ["_law_script"] (spLaw K) := by
  have G1 : FnOk P w K mg base CX0 1 f1 fd1 ["windows"] spPlan := ok_plan B k1.F
  have G2 : FnOk P w K mg base CX0 1 f2 fd2 ["windows", "chosen", "stops"] spTakes := ok_takes B k2.F
  have G4 : FnOk P w K mg base CX0 1 f4 fd4 ["_law_script"] (spStart K) := ok_start B k4.F
  have G5 : FnOk P w K mg base CX0 1 f5 fd5 ["_law_state", "_law_bound"] spDraw := ok_draw B k5.F
  have G6 : FnOk P w K mg base CX0 2 f6 fd6 ["_law_state", "_law_things"] spPick := ok_pick B k6.F k5.F k5.b k5.g
  have G8 : FnOk P w K mg base CX0 1 f8 fd8 ["_law_actual", "_law_due"] spIs := ok_is B k8.F
  have G9 : FnOk P w K mg base CX0 1 f9 fd9 ["_law_windows"] spLplan := ok_lplan B k9.F
  have G10 : FnOk P w K mg base CX0 1 f10 fd10 ["_law_windows"] spMost := ok_most B k10.F
  have G11 : FnOk P w K mg base CX0 1 f11 fd11 ["_law_windows", "_law_chosen", "_law_stops"] spTakes := ok_ltakes B k11.F
  have G12 : FnOk P w K mg base CX0 2 f12 fd12 ["_law_state", "_law_numbers"] spSpoilt := ok_spoilt B k12.F k5.F k5.b k5.g
  refine F.ok scLaw (fun vs H Q E h => ?_) (fun cdv A outer s H vs Q E hr h => ?_)
  · obtain ⟨a, ns, rfl, _⟩ := h
    rfl
  · obtain ⟨s0, ns, rfl, hS, hnl, q⟩ := h
    have hr1 := hr.mono (show 1 ≤ 2 by decide)
    have hu := hr.units
    refine ⟨_, pss_cons (ps_set (i := 1) scLaw.nd rfl (.inl rfl) (pe_call G4 hr1 (by rfl) k4.g k4.F.kp k4.b .nil pass0 (pa_cons (pv 0) pa_nil)))
      (pss_cons (ps_set (i := 2) scLaw.nd rfl (.inl rfl) (pe_lst pa_nil))
      (pss_cons (ps_for PassesOwn.never rfl (pi_range1 (by rfl) B.range (pa_cons (pe_call G5 hr1 (by rfl) k5.g k5.F.kp k5.b .nil pass0 (pa_cons (pv 1) (pa_cons pe_int pa_nil))) pa_nil)) (pg_name (i := 3) scLaw.nd rfl (.inl rfl))
        (pss_cons (ps_set (i := 4) scLaw.nd rfl (.inl rfl) (pe_call G5 hr1 (by rfl) k5.g k5.F.kp k5.b .nil pass0 (pa_cons (pv 1) (pa_cons pe_int pa_nil))))
        (pss_one (ps_expr (pe_bm PySem.F.plainAttrs_list PySem.F.slot_list_append PySem.F.type_list_append mt_append (pv 2) (pa_cons (pe_tup (pa_cons (pv 4) (pa_cons
          (pe_op op_add (pv 4) (pe_call G5 hr1 (by rfl) k5.g k5.F.kp k5.b .nil pass0 (pa_cons (pv 1) (pa_cons
            (pe_call G6 hr (by rfl) k6.g k6.F.kp k6.b .nil pass0 (pa_cons (pv 1) (pa_cons (pe_lst (pa_cons pe_int (pa_cons pe_int (pa_cons pe_int pa_nil)))) pa_nil))) pa_nil)))) pa_nil))) pa_nil))))))
      (pss_cons (ps_set (i := 5) scLaw.nd rfl (.inl rfl) (pe_callTy call_list_of (by rfl) B.list (by decide +kernel) (pa_cons (pv 2) pa_nil)))
      (pss_cons (ps_set (i := 6) scLaw.nd rfl (.inl rfl) (pe_call G9 hr1 (by rfl) k9.g k9.F.kp k9.b .nil pass0 (pa_cons (pv 2) pa_nil)))
      (pss_cons (ps_if (PW.pt (pw_or (pt_cmpR (op_neD hu) (pe_call G1 hr1 (by rfl) k1.g k1.F.kp k1.b .nil pass0 (pa_cons (pv 2) pa_nil)) (pv 6) (nomark _))
          (pw_or (pt_cmpR (op_neD hu) (pv 2) (pv 5) (nomark _))
          (pw_or1 (pt_cmpR op_ne (pe_callB call_len_seq (by rfl) B.len PySem.boot_len (pa_cons (pe_ix ix_tup (pv 6) pe_int (fun _ _ => rfl)) pa_nil)) (pe_call G10 hr1 (by rfl) k10.g k10.F.kp k10.b .nil pass0 (pa_cons (pv 2) pa_nil)) (nomark _))))))
        (pss_one (ps_ret pe_bl)) pss_nil)
      (pss_cons (ps_if (pt_not (pt_val (pe_call G8 hr1 (by rfl) k8.g k8.F.kp k8.b .nil pass0 (pa_cons
            (pe_call G2 hr1 (by rfl) k2.g k2.F.kp k2.b .nil pass0 (pa_cons (pv 2) (pa_cons (pe_ix ix_tup (pv 6) pe_int (fun _ _ => rfl)) (pa_cons (pe_ix ix_tup (pv 6) pe_int (fun _ _ => rfl)) pa_nil)))) (pa_cons pe_bl pa_nil)))))
        (pss_one (ps_ret pe_bl)) pss_nil)
      (pss_cons (ps_set (i := 7) scLaw.nd rfl (.inl rfl) (pe_ix ix_tup (pv 6) pe_int (fun _ _ => rfl)))
      (pss_cons (ps_set (i := 8) scLaw.nd rfl (.inl rfl) (pe_ix ix_tup (pv 6) pe_int (fun _ _ => rfl)))
      (pss_cut (ps_if (pt_cmpR op_eq (pe_call G5 hr1 (by rfl) k5.g k5.F.kp k5.b .nil pass0 (pa_cons (pv 1) (pa_cons pe_int pa_nil))) pe_int (nomark _))
        (pss_one (ps_set (i := 7) scLaw.nd rfl (.inl rfl) (pe_call G12 hr (by rfl) k12.g k12.F.kp k12.b .nil pass0 (pa_cons (pv 1) (pa_cons (pv 7) pa_nil))))) pss_nil)
      (pss_cut (ps_if (pt_cmpR op_eq (pe_call G5 hr1 (by rfl) k5.g k5.F.kp k5.b .nil pass0 (pa_cons (pv 1) (pa_cons pe_int pa_nil))) pe_int (nomark _))
        (pss_one (ps_set (i := 8) scLaw.nd rfl (.inl rfl) (pe_call G12 hr (by rfl) k12.g k12.F.kp k12.b .nil pass0 (pa_cons (pv 1) (pa_cons (pv 8) pa_nil))))) pss_nil)
      (pss_cons (ps_set (i := 9) scLaw.nd rfl (.inl rfl) (pe_call G11 hr1 (by rfl) k11.g k11.F.kp k11.b .nil pass0 (pa_cons (pv 2) (pa_cons (pv 7) (pa_cons (pv 8) pa_nil)))))
      (pss_cons (ps_if (PW.pt (pw_and (pt_val (pv 9)) (pw_and1 (pt_cmpR op_ne (pe_callB call_len_seq (by rfl) B.len PySem.boot_len (pa_cons (pv 7) pa_nil)) (pe_call G10 hr1 (by rfl) k10.g k10.F.kp k10.b .nil pass0 (pa_cons (pv 2) pa_nil)) (nomark _)))))
        (pss_one (ps_ret pe_bl)) pss_nil)
      (pss_one (ps_ret (pe_call G8 hr1 (by rfl) k8.g k8.F.kp k8.b .nil pass0 (pa_cons
            (pe_call G2 hr1 (by rfl) k2.g k2.F.kp k2.b .nil pass0 (pa_cons (pv 2) (pa_cons (pv 7) (pa_cons (pv 8) pa_nil)))) (pa_cons (pv 9) pa_nil))))))))))))))))), ?_⟩
    -- the state, no window yet
    refine ⟨_, rfl, s0, ns, rfl, hS, hnl, fun H1 d c s1 nd st1 => ⟨Nat.zero_le _, fun a na => ?_⟩⟩
    obtain ⟨nad, nac⟩ := st1.new na
    have st2 : StOk (upd H1 a (.lst [])) d c := st1.away nad nac
    refine ⟨.ref d, rfl, d, c, 9, rfl, st2, by decide, by decide, fun H2 n sb2 st3 n0 n1 => ?_⟩
    have ha2 : H2 a = some (.lst []) := sb2.at st2 upd_same
    refine ⟨n, rfl, by omega, by omega, ?_⟩
    refine for_it walk_range (MidL d c a s0) ?_ (fun _ _ _ _ _ => trivial) ?_ ?_
    · exact ⟨none, none, [], [], rfl, st3, ha2, PLs.nil, rfl, fun v hv => by simp at hv⟩
    · rintro i x σ H9 H3 hi ⟨y3, y4, xs, ws, rfl, st4, ha3, hP3, wl, wf⟩ ⟨rfl, rfl⟩
      refine ⟨.ref d, rfl, d, c, 30, rfl, st4, by decide, by decide, fun H4 n4 sb4 st5 m0 m1 => ?_⟩
      have ha4 := sb4.at st4 ha3
      have hP4 := hP3.but st4 sb4
      refine ⟨.ref a, rfl, .inl ⟨rfl, _, .inl (.inl ha4)⟩, .int n4, rfl, .int n4, rfl, .ref d, rfl, .ref d, rfl, by show 3 ≤ sizeLine; decide, fun z nz => ?_⟩
      obtain ⟨nzd, nzc⟩ := st5.new nz
      have st6 := st5.away (o := .lst [.int 1, .int 6, .int 20]) nzd nzc
      have ha6 := same_new (o := .lst [.int 1, .int 6, .int 20]) nz _ _ ha4
      have hP6 := hP4.same (same_new (o := .lst [.int 1, .int 6, .int 20]) nz)
      refine ⟨d, c, z, [1, 6, 20], rfl, st6, upd_same, by decide, by decide, fun H7 b7 sb7 st7 hb7 => ?_⟩
      have ha7 := sb7.at st6 ha6
      have hP7 := hP6.but st6 sb7
      have hb8 : 0 < b7 ∧ b7 ≤ 1000 := by
        simp only [List.mem_cons, List.not_mem_nil, or_false] at hb7
        omega
      refine ⟨d, c, b7, rfl, st7, hb8.1, hb8.2, fun H8 n8 sb8 st8 p0 p1 => ?_⟩
      have ha8 := sb8.at st7 ha7
      have hP8 := hP7.but st7 sb8
      refine ⟨n4, n8, rfl, rfl, by show 2 ≤ sizeLine; decide, fun U nU => ?_⟩
      obtain ⟨nUd, nUc⟩ := st8.new nU
      have ha9 := same_new (o := tupO (n4, n4 + n8)) nU _ _ ha8
      have hP9 := hP8.same (same_new (o := tupO (n4, n4 + n8)) nU)
      have xl : xs.length = i := by rw [hP3.len, wl]
      refine ⟨a, xs, _, rfl, rfl, ha9, small1000 (by omega), ?_⟩
      refine ⟨_, _, xs ++ [.ref U], ws ++ [(n4, n4 + n8)], rfl, (st8.away nUd nUc).away nad nac, upd_same, ?_, ?_, ?_⟩
      · exact (hP9.snoc upd_same).put ha9
      · rw [List.length_append, wl]
        rfl
      · intro v hv
        rcases List.mem_append.mp hv with h | h
        · exact wf v h
        · have e : v = (n4, n4 + n8) := List.mem_singleton.mp h
          rw [e]
          show n4 ≤ n4 + n8
          omega
    · rintro σ H3 ⟨y3, y4, xs, ws, rfl, st4, ha3, hP3, wl, wf⟩
      have hwl : ws.length ≤ 8 := by omega
      -- kept, due
      refine ⟨.ref a, rfl, a, xs, rfl, .inl (.inl (.inl ha3)), fun b nb => ?_⟩
      have s5 : Same H3 (upd H3 b (.lst xs)) := same_new nb
      have hb5 : upd H3 b (.lst xs) b = some (.lst xs) := upd_same
      generalize upd H3 b (.lst xs) = H5 at s5 hb5
      refine ⟨.ref a, rfl, a, ws, rfl, ⟨xs, s5 _ _ ha3, hP3.same s5⟩, by omega, fun H6 p pc ps E s6 hE hm hEl hp6 hpc6 hps6 => ?_⟩
      have T0 : Takes ws (planL ws E).1 (planL ws E).2 := planL_takes wf hE hm
      obtain ⟨ln1, ln2⟩ := planL_len (ws := ws) (E := E)
      have s36 : Same H3 H6 := s5.trans s6
      have hW6 : Wn H6 a ws := ⟨xs, s36 _ _ ha3, hP3.same s36⟩
      -- plan(windows) != due
      refine ⟨.ref a, rfl, a, ws, rfl, hW6, by omega, fun H7 p7 pc7 ps7 R s7 hR1 hR2 hp7 hpc7 hps7 => ?_⟩
      rw [plan_eq wf hR1 hR2 hE hm] at hpc7 hps7
      have shp := shaped_plan (planL ws E)
      refine ⟨.ref p, rfl, dPlan (planL ws E), dPlan (planL ws E), dp_plan hp7 hpc7 hps7, dp_plan (s7 _ _ hp6) (s7 _ _ hpc6) (s7 _ _ hps6), shp, shp, false, by rw [eqv_self shp]; rfl, ?_⟩
      -- windows != kept
      have s37 : Same H3 H7 := s36.trans s7
      have hP7 := hP3.same s37
      have shw := shaped_wins ws
      refine ⟨.ref a, rfl, .ref b, rfl, dWins ws, dWins ws, dp_wins (s37 _ _ ha3) hP7, dp_wins (s7 _ _ (s6 _ _ hb5)) hP7, shw, shw, false, by rw [eqv_self shw]; rfl, ?_⟩
      -- len(due[0]) != most
      refine ⟨.ref p, rfl, p, _, 0, _, rfl, rfl, .inl (.inl (s7 _ _ hp6)), atI_nat (j := 0) rfl, pc, _, rfl, .inr (.inl (.inl (s7 _ _ hpc6))), .ref a, rfl, a, ws, rfl, ⟨xs, s37 _ _ ha3, hP7⟩, by omega, fun H8 R8 s8 hq1 hq2 => ?_⟩
      have eM : mostF R8 = (((planL ws E).1.map V.int).length : Nat) := by rw [most_is wf hq1 hq2 T0, List.length_map]
      refine ⟨rfl, false, by rw [eM, decide_eq_true rfl]; rfl, ?_⟩
      -- the plan told is taken
      have s38 : Same H3 H8 := s37.trans s8
      have s68 : Same H6 H8 := s7.trans s8
      have hW8 : Wn H8 a ws := ⟨xs, s38 _ _ ha3, hP3.same s38⟩
      have hp8 := s68 _ _ hp6
      have hpc8 := s68 _ _ hpc6
      have hps8 := s68 _ _ hps6
      refine ⟨.ref a, rfl, .ref p, rfl, p, _, 0, _, rfl, rfl, .inl (.inl hp8), atI_nat (j := 0) rfl, .ref p, rfl, p, _, 1, _, rfl, rfl, .inl (.inl hp8), atI_nat (j := 1) rfl, a, pc, ps, ws, _, _, rfl, hW8, by omega, hpc8, by omega, hps8, by omega, fun H9 s9 => ?_⟩
      have eT : takesB ws (planL ws E).1 (planL ws E).2 = true := takes_iff.mpr T0
      rw [eT]
      refine ⟨true, true, rfl, true, rfl, ?_⟩
      -- chosen, stops
      have hp9 := s9 _ _ hp8
      refine ⟨.ref p, rfl, p, _, 0, _, rfl, rfl, .inl (.inl hp9), atI_nat (j := 0) rfl, ?_⟩
      refine ⟨.ref p, rfl, p, _, 1, _, rfl, rfl, .inl (.inl hp9), atI_nat (j := 1) rfl, ?_⟩
      have st9 : StOk H9 d c := st4.same (s38.trans s9)
      have hW9 := hW8.same s9
      have hpc9 := s9 _ _ hpc8
      have hps9 := s9 _ _ hps8
      refine ⟨MidM d c a s0 b p ws y3 y4, ?_, ?_⟩
      · refine ⟨.ref d, rfl, d, c, 2, rfl, st9, by decide, by decide, fun H10 n10 sb10 st10 _ _ => ⟨rfl, _, rfl, ite2 (fun e => ?_) (fun e => ?_)⟩⟩
        · refine ⟨.ref d, rfl, .ref pc, rfl, d, c, pc, _, rfl, st10, sb10.tup st9 hpc9, by omega, fun H11 pc2 ms sb11 st11 h11 hl11 => ?_⟩
          exact ⟨pc2, ps, ms, _, rfl, st11, (hW9.but st9 sb10).but st10 sb11, h11, hl11, sb11.tup st10 (sb10.tup st9 hps9), by omega⟩
        · exact ⟨pc, ps, _, _, rfl, st10, hW9.but st9 sb10, sb10.tup st9 hpc9, by omega, sb10.tup st9 hps9, by omega⟩
      rintro σ H10 ⟨pc, ps, ch, st, rfl, st10, hW10, hpc10, hl1, hps10, hl2⟩
      refine ⟨MidN d c a s0 b p ws y3 y4, ?_, ?_⟩
      · refine ⟨.ref d, rfl, d, c, 2, rfl, st10, by decide, by decide, fun H11 n11 sb11 st11 _ _ => ⟨rfl, _, rfl, ite2 (fun e => ?_) (fun e => ?_)⟩⟩
        · refine ⟨.ref d, rfl, .ref ps, rfl, d, c, ps, _, rfl, st11, sb11.tup st10 hps10, hl2, fun H12 ps2 ms sb12 st12 h12 hl12 => ?_⟩
          exact ⟨pc, ps2, ch, ms, rfl, st12, (hW10.but st10 sb11).but st11 sb12, sb12.tup st11 (sb11.tup st10 hpc10), hl1, h12, hl12⟩
        · exact ⟨pc, ps, ch, st, rfl, st11, hW10.but st10 sb11, sb11.tup st10 hpc10, hl1, sb11.tup st10 hps10, by omega⟩
      rintro σ H11 ⟨pc, ps, ch, st, rfl, st11, hW11, hpc11, hl1, hps11, hl2⟩
      -- expected
      refine ⟨.ref a, rfl, .ref pc, rfl, .ref ps, rfl, a, pc, ps, ws, ch, st, rfl, hW11, by omega, hpc11, by omega, hps11, by omega, fun H12 s12 => ?_⟩
      have hW12 := hW11.same s12
      have hpc12 := s12 _ _ hpc11
      have hps12 := s12 _ _ hps11
      have fin : ∀ H13, Same H12 H13 → Q (.bl (decide (takesB ws ch st = takesB ws ch st))) H13 := fun H13 _ => by
        rw [decide_eq_true rfl]
        exact q H13
      generalize hT : takesB ws ch st = T at fin
      cases T with
      | false =>
        refine ⟨_, rfl, false, rfl, ?_⟩
        refine ⟨.ref a, rfl, .ref pc, rfl, .ref ps, rfl, a, pc, ps, ws, ch, st, rfl, hW12, by omega, hpc12, by omega, hps12, by omega, fun H13 s13 => ?_⟩
        rw [hT]
        exact ⟨.bl false, rfl, false, false, rfl, fin H13 s13⟩
      | true =>
        have T1 : Takes ws ch st := takes_iff.mp hT
        refine ⟨_, rfl, true, rfl, ?_⟩
        refine ⟨.ref pc, rfl, pc, _, rfl, .inr (.inl (.inl hpc12)), .ref a, rfl, a, ws, rfl, hW12, by omega, fun H13 R13 s13 hq1 hq2 => ?_⟩
        have eM2 : mostF R13 = ((ch.map V.int).length : Nat) := by rw [most_is wf hq1 hq2 T1, List.length_map]
        refine ⟨rfl, false, by rw [eM2, decide_eq_true rfl]; rfl, ?_⟩
        refine ⟨.ref a, rfl, .ref pc, rfl, .ref ps, rfl, a, pc, ps, ws, ch, st, rfl, hW12.same s13, by omega, s13 _ _ hpc12, by omega, s13 _ _ hps12, by omega, fun H14 s14 => ?_⟩
        rw [hT]
        exact ⟨.bl true, rfl, true, true, rfl, fin H14 (s13.trans s14)⟩
end
end K39
set_option autoImplicit false
namespace K39
open PySem PySem.Spec PyProof.Rows L2
/-! ### what the top has written; the law's own head -/
/-- a def as the top has left it -/
structure Left (K : PySem.W.Frag) (x : Str) (st : Stmt) (f : Addr) (oc : Value) (od : Option Addr) (sl : Array (Option Value)) (kV dc pm : Value) (an : Option Addr) (cd ct : Value) : Prop where
  a : PySem.W.nsIn K mainGlobals x = some (some (.ref f))
  l : K.lookup f = some ⟨oc, od, .func (PySem.W.fnOf x x (defArgs st) (defBody st) (defScope st) .none kV dc pm an cd ct), sl⟩
  c : PySem.W.codeIn K cd x = true
  k : PySem.W.keepIn K (.ref f) = true

theorem all_mk {l : PySem.W.OpenLaw} {w : World} {K : PySem.W.Frag} {h : Heap} {mg : Str → Option Value} {fa : Addr} (X : K.In h) (G : h.Ns mainGlobals mg) (hfa : mg "law" = some (.ref fa))
    {f1 : Addr} {oc1 : Value} {od1 an1 : Option Addr} {sl1 : Array (Option Value)} {kV1 dc1 pm1 cd1 ct1 : Value} (L1 : Left K "plan" sPlan f1 oc1 od1 sl1 kV1 dc1 pm1 an1 cd1 ct1)
    {f2 : Addr} {oc2 : Value} {od2 an2 : Option Addr} {sl2 : Array (Option Value)} {kV2 dc2 pm2 cd2 ct2 : Value} (L2 : Left K "takes_plan" sTakes f2 oc2 od2 sl2 kV2 dc2 pm2 an2 cd2 ct2)
    {f4 : Addr} {oc4 : Value} {od4 an4 : Option Addr} {sl4 : Array (Option Value)} {kV4 dc4 pm4 cd4 ct4 : Value} (L4 : Left K "_law_start" sStart f4 oc4 od4 sl4 kV4 dc4 pm4 an4 cd4 ct4)
    {f5 : Addr} {oc5 : Value} {od5 an5 : Option Addr} {sl5 : Array (Option Value)} {kV5 dc5 pm5 cd5 ct5 : Value} (L5 : Left K "_law_draw" sDraw f5 oc5 od5 sl5 kV5 dc5 pm5 an5 cd5 ct5)
    {f6 : Addr} {oc6 : Value} {od6 an6 : Option Addr} {sl6 : Array (Option Value)} {kV6 dc6 pm6 cd6 ct6 : Value} (L6 : Left K "_law_pick" sPick f6 oc6 od6 sl6 kV6 dc6 pm6 an6 cd6 ct6)
    {f8 : Addr} {oc8 : Value} {od8 an8 : Option Addr} {sl8 : Array (Option Value)} {kV8 dc8 pm8 cd8 ct8 : Value} (L8 : Left K "_law_is" sIs f8 oc8 od8 sl8 kV8 dc8 pm8 an8 cd8 ct8)
    {f9 : Addr} {oc9 : Value} {od9 an9 : Option Addr} {sl9 : Array (Option Value)} {kV9 dc9 pm9 cd9 ct9 : Value} (L9 : Left K "_law_plan" sLplan f9 oc9 od9 sl9 kV9 dc9 pm9 an9 cd9 ct9)
    {f10 : Addr} {oc10 : Value} {od10 an10 : Option Addr} {sl10 : Array (Option Value)} {kV10 dc10 pm10 cd10 ct10 : Value} (L10 : Left K "_law_most" sMost f10 oc10 od10 sl10 kV10 dc10 pm10 an10 cd10 ct10)
    {f11 : Addr} {oc11 : Value} {od11 an11 : Option Addr} {sl11 : Array (Option Value)} {kV11 dc11 pm11 cd11 ct11 : Value} (L11 : Left K "_law_takes" sLtakes f11 oc11 od11 sl11 kV11 dc11 pm11 an11 cd11 ct11)
    {f12 : Addr} {oc12 : Value} {od12 an12 : Option Addr} {sl12 : Array (Option Value)} {kV12 dc12 pm12 cd12 ct12 : Value} (L12 : Left K "_law_spoilt" sSpoilt f12 oc12 od12 sl12 kV12 dc12 pm12 an12 cd12 ct12)
    {f13 : Addr} {oc13 : Value} {od13 an13 : Option Addr} {sl13 : Array (Option Value)} {kV13 dc13 pm13 cd13 ct13 : Value} (L13 : Left K "law" sLaw f13 oc13 od13 sl13 kV13 dc13 pm13 an13 cd13 ct13)
    (z_abs_ : PySem.W.nsIn K mainGlobals "abs" = some none)
    (z_int_ : PySem.W.nsIn K mainGlobals "int" = some none)
    (z_len : PySem.W.nsIn K mainGlobals "len" = some none)
    (z_range : PySem.W.nsIn K mainGlobals "range" = some none)
    (z_sorted : PySem.W.nsIn K mainGlobals "sorted" = some none)
    (z_set : PySem.W.nsIn K mainGlobals "set" = some none)
    (z_max : PySem.W.nsIn K mainGlobals "max" = some none)
    (z_list : PySem.W.nsIn K mainGlobals "list" = some none)
    (z_tuple : PySem.W.nsIn K mainGlobals "tuple" = some none)
    (z_isin : PySem.W.nsIn K mainGlobals "isinstance" = some none)
    (z_bool : PySem.W.nsIn K mainGlobals "bool" = some none)
    (z_all : PySem.W.nsIn K mainGlobals "all" = some none)
    (z_any : PySem.W.nsIn K mainGlobals "any" = some none)
    (z_zip : PySem.W.nsIn K mainGlobals "zip" = some none)
    (z_enum : PySem.W.nsIn K mainGlobals "enumerate" = some none)
    : ∃ fd : FuncData, (∀ (s : Shared) (v : Value), BindsTo s fd ⟨[v], []⟩ [("_law_script", v)]) ∧ ∀ base : Heap, K.In base → base.Ns mainGlobals mg → FnOk l.prog w K mg base CX0 3 fa fd ["_law_script"] (spLaw K) := by
  have e := hfa.symm.trans (PySem.W.mg_of X G L13.a)
  cases e
  have B : Bl mg := ⟨PySem.W.mg_none_of X G z_abs_, PySem.W.mg_none_of X G z_int_, PySem.W.mg_none_of X G z_len, PySem.W.mg_none_of X G z_range, PySem.W.mg_none_of X G z_sorted, PySem.W.mg_none_of X G z_set, PySem.W.mg_none_of X G z_max, PySem.W.mg_none_of X G z_list, PySem.W.mg_none_of X G z_tuple, PySem.W.mg_none_of X G z_isin, PySem.W.mg_none_of X G z_bool, PySem.W.mg_none_of X G z_all, PySem.W.mg_none_of X G z_any, PySem.W.mg_none_of X G z_zip, PySem.W.mg_none_of X G z_enum⟩
  have F1 := fun_mk (st := sPlan) L1.l L1.c L1.k
  have F2 := fun_mk (st := sTakes) L2.l L2.c L2.k
  have F4 := fun_mk (st := sStart) L4.l L4.c L4.k
  have F5 := fun_mk (st := sDraw) L5.l L5.c L5.k
  have F6 := fun_mk (st := sPick) L6.l L6.c L6.k
  have F8 := fun_mk (st := sIs) L8.l L8.c L8.k
  have F9 := fun_mk (st := sLplan) L9.l L9.c L9.k
  have F10 := fun_mk (st := sMost) L10.l L10.c L10.k
  have F11 := fun_mk (st := sLtakes) L11.l L11.c L11.k
  have F12 := fun_mk (st := sSpoilt) L12.l L12.c L12.k
  have F13 := fun_mk (st := sLaw) L13.l L13.c L13.k
  have b1 := F1.binds (ps := ["windows"]) fun _ _ _ _ _ _ us hl => match us, hl with | [_], _ => rfl
  have b2 := F2.binds (ps := ["windows", "chosen", "stops"]) fun _ _ _ _ _ _ us hl => match us, hl with | [_, _, _], _ => rfl
  have b4 := F4.binds (ps := ["_law_script"]) fun _ _ _ _ _ _ us hl => match us, hl with | [_], _ => rfl
  have b5 := F5.binds (ps := ["_law_state", "_law_bound"]) fun _ _ _ _ _ _ us hl => match us, hl with | [_, _], _ => rfl
  have b6 := F6.binds (ps := ["_law_state", "_law_things"]) fun _ _ _ _ _ _ us hl => match us, hl with | [_, _], _ => rfl
  have b8 := F8.binds (ps := ["_law_actual", "_law_due"]) fun _ _ _ _ _ _ us hl => match us, hl with | [_, _], _ => rfl
  have b9 := F9.binds (ps := ["_law_windows"]) fun _ _ _ _ _ _ us hl => match us, hl with | [_], _ => rfl
  have b10 := F10.binds (ps := ["_law_windows"]) fun _ _ _ _ _ _ us hl => match us, hl with | [_], _ => rfl
  have b11 := F11.binds (ps := ["_law_windows", "_law_chosen", "_law_stops"]) fun _ _ _ _ _ _ us hl => match us, hl with | [_, _, _], _ => rfl
  have b12 := F12.binds (ps := ["_law_state", "_law_numbers"]) fun _ _ _ _ _ _ us hl => match us, hl with | [_, _], _ => rfl
  refine ⟨PySem.W.fnOf "law" "law" (defArgs sLaw) (defBody sLaw) (defScope sLaw) .none kV13 dc13 pm13 an13 cd13 ct13, fun s v => .of_eq rfl, fun base _ _ => ?_⟩
  exact ok_law B F13 ⟨F1, b1, PySem.W.mg_of X G L1.a⟩ ⟨F2, b2, PySem.W.mg_of X G L2.a⟩ ⟨F4, b4, PySem.W.mg_of X G L4.a⟩ ⟨F5, b5, PySem.W.mg_of X G L5.a⟩ ⟨F6, b6, PySem.W.mg_of X G L6.a⟩ ⟨F8, b8, PySem.W.mg_of X G L8.a⟩ ⟨F9, b9, PySem.W.mg_of X G L9.a⟩ ⟨F10, b10, PySem.W.mg_of X G L10.a⟩ ⟨F11, b11, PySem.W.mg_of X G L11.a⟩ ⟨F12, b12, PySem.W.mg_of X G L12.a⟩
end K39
open PySem PySem.W PyProof.Rows
set_option maxHeartbeats 0 in
theorem PySem.Challenge.cw_truealmanac_k39_whole_plans_of_watches_holds : PySem.Challenge.rw_truealmanac_k39_whole_plans_of_watches.Holds := by
  w_on; o_law; k_head; (case hw => w_witness2)
  k_fill
  refine L2.walk_of (l := PySem.Challenge.rw_truealmanac_k39_whole_plans_of_watches) (n := 63) (k := 3) (x := "_law_script") (CX := fun _ => L2.CX0) (sp := fun w => K39.spLaw _) rfl (by decide) rfl ⟨rfl, by decide, by decide⟩ (fun w h Y => PySem.W.kIn_of Y) ?F
    (fun _ _ a ns hl _ hS => ⟨a, ns, rfl, hS, hl, fun _ => rfl⟩) (fun _ _ _ _ _ h => h)
  case F =>
    intro w mg fa h KX G hmg
    refine' K39.all_mk KX G hmg ⟨?a1, ?l1, ?c1, ?k1⟩ ⟨?a2, ?l2, ?c2, ?k2⟩ ⟨?a4, ?l4, ?c4, ?k4⟩ ⟨?a5, ?l5, ?c5, ?k5⟩ ⟨?a6, ?l6, ?c6, ?k6⟩ ⟨?a8, ?l8, ?c8, ?k8⟩ ⟨?a9, ?l9, ?c9, ?k9⟩ ⟨?a10, ?l10, ?c10, ?k10⟩ ⟨?a11, ?l11, ?c11, ?k11⟩ ⟨?a12, ?l12, ?c12, ?k12⟩ ⟨?a13, ?l13, ?c13, ?k13⟩ ?z0 ?z1 ?z2 ?z3 ?z4 ?z5 ?z6 ?z7 ?z8 ?z9 ?z10 ?z11 ?z12 ?z13 ?z14
    (case a1 => k_is); (case l1 => k_is); (case c1 => k_is); (case k1 => k_is); (case a2 => k_is); (case l2 => k_is); (case c2 => k_is); (case k2 => k_is); (case a4 => k_is); (case l4 => k_is); (case c4 => k_is); (case k4 => k_is); (case a5 => k_is); (case l5 => k_is); (case c5 => k_is); (case k5 => k_is); (case a6 => k_is); (case l6 => k_is); (case c6 => k_is); (case k6 => k_is); (case a8 => k_is); (case l8 => k_is); (case c8 => k_is); (case k8 => k_is); (case a9 => k_is); (case l9 => k_is); (case c9 => k_is); (case k9 => k_is); (case a10 => k_is); (case l10 => k_is); (case c10 => k_is); (case k10 => k_is); (case a11 => k_is); (case l11 => k_is); (case c11 => k_is); (case k11 => k_is); (case a12 => k_is); (case l12 => k_is); (case c12 => k_is); (case k12 => k_is); (case a13 => k_is); (case l13 => k_is); (case c13 => k_is); (case k13 => k_is); (case z0 => k_is); (case z1 => k_is); (case z2 => k_is); (case z3 => k_is); (case z4 => k_is); (case z5 => k_is); (case z6 => k_is); (case z7 => k_is); (case z8 => k_is); (case z9 => k_is); (case z10 => k_is); (case z11 => k_is); (case z12 => k_is); (case z13 => k_is); (case z14 => k_is)
