import PyProof.Rows.All
import Wide.All
import OpenK.AllK
import Wide.FinOn
import KE.SortKeyHeap
import HandS.ForMost
import HandS.Evl
import HandS.Deep
import HandS.DictComp
import HandS.SortKw
import HandS.Conv
import HandS.SetFor
import HandS.Strs
import HandS.TupAny
import HandS.Defaults
import PyProof.ReprBulk
import HandS.Ends
import HandS.Head0
import HandS.Head1
import HandS.Head2
import HandS.HeadEnd
import HandS.HeadHook1
import HandS.HeadHook2
import PySem.Challenge.RW_countsworn_k30_units_and_parts
set_option Elab.async false
set_option linter.all false
set_option maxRecDepth 100000
set_option maxHeartbeats 1000000
/-! The mathematics: what the defs of countsworn.residues and the law's own defs compute, in plain lists. -/
namespace Cw
open PySem PySem.W

/-! ### data and orders -/
def ab (i : Int) : Int := if i < 0 then -i else i
def dI (ns : List Int) : PyData := .tuple (ns.map .int)
def dR (cs : List (List Int)) : PyData := .tuple (cs.map dI)
def lkD (l : Int) : PyData := .tuple [.int (ab l), .int (if 0 < l then 1 else 0)]
def ckD (c : List Int) : PyData := .tuple (c.map lkD)
def srtL (ls : List Int) : List Int := ls.mergeSort (dataLe false lkD)
def srtC (cs : List (List Int)) : List (List Int) := cs.mergeSort (dataLe false ckD)
theorem ab_pos {l : Int} (h : 0 < l) : ab l = l := by unfold ab; split <;> omega
theorem ab_neg {l : Int} (h : ¬ 0 < l) : ab l = -l := by unfold ab; split <;> omega
theorem ab_nn (l : Int) : 0 ≤ ab l := by unfold ab; split <;> omega

/-! ### each item once -/
section
variable {α : Type} [DecidableEq α]
def onceStep (acc : List α) (x : α) : List α := if x ∈ acc then acc else acc ++ [x]
def once (xs : List α) : List α := xs.foldl onceStep []
theorem once_snoc (xs : List α) (x : α) : once (xs ++ [x]) = onceStep (once xs) x := by
  unfold once
  rw [List.foldl_append]
  rfl
theorem once_in {xs : List α} {x : α} (h : x ∈ once xs) : once (xs ++ [x]) = once xs := by
  rw [once_snoc]
  unfold onceStep
  rw [if_pos h]
theorem once_out {xs : List α} {x : α} (h : ¬ x ∈ once xs) : once (xs ++ [x]) = once xs ++ [x] := by
  rw [once_snoc]
  unfold onceStep
  rw [if_neg h]
theorem mem_fold (x : α) : ∀ (xs acc : List α), x ∈ xs.foldl onceStep acc ↔ x ∈ acc ∨ x ∈ xs
  | [], acc => by simp
  | y :: ys, acc => by
    rw [List.foldl_cons, mem_fold x ys]
    unfold onceStep
    by_cases h : y ∈ acc
    · rw [if_pos h]
      constructor
      · rintro (q | q)
        · exact .inl q
        · exact .inr (List.mem_cons_of_mem _ q)
      · rintro (q | q)
        · exact .inl q
        · rcases List.mem_cons.mp q with rfl | q
          · exact .inl h
          · exact .inr q
    · rw [if_neg h]
      simp only [List.mem_append, List.mem_cons, List.not_mem_nil, or_false]
      constructor
      · rintro ((q | q) | q)
        · exact .inl q
        · exact .inr (.inl q)
        · exact .inr (.inr q)
      · rintro (q | q | q)
        · exact .inl (.inl q)
        · exact .inl (.inr q)
        · exact .inr q
theorem mem_once {x : α} {xs : List α} : x ∈ once xs ↔ x ∈ xs := by
  unfold once
  rw [mem_fold]
  simp
theorem nodup_fold : ∀ (xs acc : List α), acc.Nodup → (xs.foldl onceStep acc).Nodup
  | [], _, h => h
  | y :: ys, acc, h => by
    rw [List.foldl_cons]
    refine nodup_fold ys _ ?_
    unfold onceStep
    by_cases hy : y ∈ acc
    · rw [if_pos hy]
      exact h
    · rw [if_neg hy, List.nodup_append]
      refine ⟨h, by simp, fun a ha b hb e => ?_⟩
      rw [List.mem_singleton] at hb
      subst hb
      subst e
      exact hy ha
theorem nodup_once (xs : List α) : (once xs).Nodup := nodup_fold xs [] List.nodup_nil
theorem len_fold : ∀ (xs acc : List α), (xs.foldl onceStep acc).length ≤ acc.length + xs.length
  | [], acc => Nat.le_refl _
  | y :: ys, acc => by
    rw [List.foldl_cons]
    have h := len_fold ys (onceStep acc y)
    have h2 : (onceStep acc y).length ≤ acc.length + 1 := by
      unfold onceStep
      split
      · exact Nat.le_succ _
      · rw [List.length_append]
        exact Nat.le_refl _
    rw [List.length_cons]
    omega
theorem len_once (xs : List α) : (once xs).length ≤ xs.length := by
  have h := len_fold xs ([] : List α)
  unfold once
  simpa using h
theorem perm_nodup : ∀ {xs ys : List α}, xs.Nodup → ys.Nodup → (∀ x, x ∈ xs ↔ x ∈ ys) → xs.Perm ys := fun {xs ys} h1 h2 h =>
  (List.perm_ext_iff_of_nodup h1 h2).mpr h
end

/-! ### ascending ints -/
def leI (a b : Int) : Bool := decide (a ≤ b)
def srtI (ns : List Int) : List Int := ns.mergeSort leI
theorem srtI_perm (ns : List Int) : (srtI ns).Perm ns := List.mergeSort_perm ns leI
theorem srtI_pw (ns : List Int) : (srtI ns).Pairwise (· ≤ ·) := by
  have h := List.pairwise_mergeSort (le := leI) (fun a b c h1 h2 => decide_eq_true (Int.le_trans (of_decide_eq_true h1) (of_decide_eq_true h2)))
    (fun a b => by
      rcases Int.le_total a b with h | h
      · rw [show leI a b = true from decide_eq_true h]
        rfl
      · rw [show leI b a = true from decide_eq_true h, Bool.or_true]) ns
  exact h.imp fun q => of_decide_eq_true q
theorem pw_one : ∀ {xs ys : List Int}, xs.Perm ys → xs.Pairwise (· ≤ ·) → ys.Pairwise (· ≤ ·) → xs = ys := fun {xs ys} hp h1 h2 =>
  hp.eq_of_pairwise (le := (· ≤ ·)) (fun a b _ _ h h' => Int.le_antisymm h h') h1 h2
theorem srtI_of {xs ns : List Int} (hp : xs.Perm ns) (hs : xs.Pairwise (· ≤ ·)) : xs = srtI ns :=
  pw_one (hp.trans (srtI_perm ns).symm) hs (srtI_pw ns)
theorem srtI_lt {ns : List Int} (h : ns.Nodup) : (srtI ns).Pairwise (· < ·) := by
  have h1 := srtI_pw ns
  have h2 : (srtI ns).Nodup := (srtI_perm ns).nodup_iff.mpr h
  exact (h1.and h2).imp fun ⟨a, b⟩ => Int.lt_iff_le_and_ne.mpr ⟨a, b⟩
theorem mem_srtI {x : Int} {ns : List Int} : x ∈ srtI ns ↔ x ∈ ns := (srtI_perm ns).mem_iff
theorem pw_lt_nodup {xs : List Int} (h : xs.Pairwise (· < ·)) : xs.Nodup := h.imp fun q => Int.ne_of_lt q
theorem srtI_set {xs ns : List Int} (hs : xs.Pairwise (· < ·)) (hm : ∀ k, k ∈ xs ↔ k ∈ ns) : xs = srtI (once ns) :=
  srtI_of (perm_nodup (pw_lt_nodup hs) (nodup_once ns) fun x => (hm x).trans mem_once.symm) (hs.imp fun q => Int.le_of_lt q)

/-! ### variables, residues, units -/
def litsM (R : List (List Int)) : List Int := R.flatMap fun c => c.map ab
def varsM (R : List (List Int)) : List Int := srtI (once (litsM R))
theorem mem_litsM {R : List (List Int)} {v : Int} : v ∈ litsM R ↔ ∃ c ∈ R, ∃ l ∈ c, ab l = v := by
  unfold litsM
  simp only [List.mem_flatMap, List.mem_map]
theorem mem_varsM {R : List (List Int)} {v : Int} : v ∈ varsM R ↔ ∃ c ∈ R, ∃ l ∈ c, ab l = v := by
  unfold varsM
  rw [mem_srtI, mem_once, mem_litsM]
theorem varsM_lt (R : List (List Int)) : (varsM R).Pairwise (· < ·) := srtI_lt (nodup_once _)
def resM (cs : List (List Int)) : List (List Int) := srtC (once cs)
theorem mem_resM {c : List Int} {cs : List (List Int)} : c ∈ resM cs ↔ c ∈ cs := by
  unfold resM srtC
  rw [(List.mergeSort_perm _ _).mem_iff, mem_once]
theorem len_resM (cs : List (List Int)) : (resM cs).length ≤ cs.length := by
  unfold resM srtC
  rw [List.length_mergeSort]
  exact len_once cs
theorem varsM_congr {R S : List (List Int)} (h : ∀ c, c ∈ R ↔ c ∈ S) : varsM R = varsM S := by
  refine pw_one (perm_nodup (pw_lt_nodup (varsM_lt R)) (pw_lt_nodup (varsM_lt S)) fun v => ?_) ((varsM_lt R).imp fun q => Int.le_of_lt q) ((varsM_lt S).imp fun q => Int.le_of_lt q)
  rw [mem_varsM, mem_varsM]
  constructor
  · rintro ⟨c, hc, q⟩
    exact ⟨c, (h c).mp hc, q⟩
  · rintro ⟨c, hc, q⟩
    exact ⟨c, (h c).mpr hc, q⟩
def cutM (l : Int) (c : List Int) : Option (List Int) := if l ∈ c then none else some (c.filter fun x => decide (x ≠ -l))
def givenM (R : List (List Int)) (l : Int) : List (List Int) := resM (R.filterMap (cutM l))
def oneM (c : List Int) : Option Int := if c.length = 1 then c.head? else none
def unitsM (R : List (List Int)) : List Int := srtL (R.filterMap oneM)
theorem cutM_keep {l : Int} {c : List Int} (h : ¬ l ∈ c) (h2 : ¬ -l ∈ c) : cutM l c = some c := by
  have e : c.filter (fun x => decide (x ≠ -l)) = c := List.filter_eq_self.mpr fun x hx => decide_eq_true fun e => h2 (by rw [← e]; exact hx)
  unfold cutM
  rw [if_neg h, e]
theorem mem_unitsM {R : List (List Int)} {x : Int} (h : x ∈ unitsM R) : [x] ∈ R := by
  unfold unitsM srtL at h
  rw [(List.mergeSort_perm _ _).mem_iff, List.mem_filterMap] at h
  obtain ⟨c, hc, e⟩ := h
  unfold oneM at e
  split at e
  · rename_i h1
    match c, h1, e with
    | [y], _, e =>
      have e' : y = x := Option.some.inj e
      subst e'
      exact hc
  · cases e
theorem len_filterMap_lt {α β : Type} {f : α → Option β} : ∀ {xs : List α} {x : α}, x ∈ xs → f x = none → (xs.filterMap f).length < xs.length
  | y :: ys, x, hx, hf => by
    have hle : (ys.filterMap f).length ≤ ys.length := List.length_filterMap_le f ys
    rw [List.filterMap_cons]
    rcases List.mem_cons.mp hx with rfl | hx
    · rw [hf, List.length_cons]
      exact Nat.lt_succ_of_le hle
    · have ih := len_filterMap_lt hx hf
      cases f y with
      | none =>
        rw [List.length_cons]
        simp only
        omega
      | some b =>
        simp only [List.length_cons]
        omega
theorem givenM_lt {R : List (List Int)} {x : Int} (h : x ∈ unitsM R) : (givenM R x).length < R.length := by
  refine Nat.lt_of_le_of_lt (len_resM _) (len_filterMap_lt (mem_unitsM h) ?_)
  unfold cutM
  rw [if_pos List.mem_cons_self]
theorem len_givenM (R : List (List Int)) (l : Int) : (givenM R l).length ≤ R.length := Nat.le_trans (len_resM _) (List.length_filterMap_le _ R)

/-! ### propagate -/
def propM : Nat → List (List Int) → List Int → List (List Int) × List Int
  | 0, R, f => (R, f)
  | n + 1, R, f => if [] ∈ R then ([[]], f) else match unitsM R with
    | [] => (R, f)
    | x :: _ => propM n (givenM R x) (f ++ [x])
theorem propM_fuel : ∀ (n m : Nat) (R : List (List Int)) (f : List Int), R.length < n → R.length < m → propM n R f = propM m R f
  | 0, _, _, _, h, _ => absurd h (Nat.not_lt_zero _)
  | _ + 1, 0, _, _, _, h => absurd h (Nat.not_lt_zero _)
  | n + 1, m + 1, R, f, h1, h2 => by
    unfold propM
    split
    · rfl
    · split
      · rfl
      · rename_i x t e
        have hx := givenM_lt (R := R) (x := x) (by rw [e]; exact List.mem_cons_self)
        exact propM_fuel n m _ _ (by omega) (by omega)
def propF (R : List (List Int)) (f : List Int) : List (List Int) × List Int := propM (R.length + 1) R f
theorem propF_bad {R : List (List Int)} (f : List Int) (h : [] ∈ R) : propF R f = ([[]], f) := by
  unfold propF propM
  rw [if_pos h]
theorem propF_end {R : List (List Int)} (f : List Int) (h : ¬ [] ∈ R) (hu : unitsM R = []) : propF R f = (R, f) := by
  unfold propF propM
  rw [if_neg h, hu]
theorem propF_step {R : List (List Int)} (f : List Int) {x : Int} {t : List Int} (h : ¬ [] ∈ R) (hu : unitsM R = x :: t) : propF R f = propF (givenM R x) (f ++ [x]) := by
  have hx := givenM_lt (R := R) (x := x) (by rw [hu]; exact List.mem_cons_self)
  have e : propF R f = propM R.length (givenM R x) (f ++ [x]) := by
    unfold propF
    rw [propM, if_neg h, hu]
  rw [e]
  exact propM_fuel _ _ _ _ hx (Nat.lt_succ_self _)

/-! ### lessened -/
def withinM (o c : List Int) : Bool := o.all fun l => decide (l ∈ c)
def lessM (R : List (List Int)) : List (List Int) := R.filter fun c => !(R.any fun o => decide (o ≠ c) && withinM o c)
theorem sub_len : ∀ {xs ys : List Int}, xs.Nodup → (∀ x ∈ xs, x ∈ ys) → xs.length ≤ ys.length
  | [], _, _, _ => Nat.zero_le _
  | x :: xs, ys, hn, hs => by
    obtain ⟨h1, h2⟩ := List.nodup_cons.mp hn
    have hx : x ∈ ys := hs x List.mem_cons_self
    have ih := sub_len (ys := ys.erase x) h2 fun y hy => (List.mem_erase_of_ne fun e => h1 (by rw [← e]; exact hy)).mpr (hs y (List.mem_cons_of_mem _ hy))
    rw [List.length_erase_of_mem hx] at ih
    have hp : 0 < ys.length := List.length_pos_of_mem hx
    rw [List.length_cons]
    omega
theorem within_len : ∀ {o c : List Int}, o.Nodup → withinM o c = true → o.length ≤ c.length := fun {o c} hn h => by
  exact sub_len hn fun x hx => of_decide_eq_true (List.all_eq_true.mp h x hx)
theorem within_eq {o c : List Int} (hn : o.Nodup) : (decide (o.length ≤ c.length) && withinM o c) = withinM o c := by
  cases h : withinM o c with
  | false => rw [Bool.and_false]
  | true => rw [decide_eq_true (within_len hn h)]; rfl
end Cw

set_option Elab.async false
set_option linter.all false
set_option maxRecDepth 100000
set_option maxHeartbeats 1000000
/-! The parts: two ways to the joined clauses. -/
namespace Cw
open PySem PySem.W

def Closed (R : List (List Int)) (S : Int → Prop) : Prop := ∀ c ∈ R, ∀ a ∈ c, ∀ b ∈ c, S (ab a) → S (ab b)
def Conn (R : List (List Int)) (u v : Int) : Prop := ∀ S : Int → Prop, Closed R S → S u → S v
theorem Conn.refl (R : List (List Int)) (u : Int) : Conn R u u := fun _ _ h => h
theorem Conn.trans {R : List (List Int)} {u v w : Int} (a : Conn R u v) (b : Conn R v w) : Conn R u w := fun S hS h => b S hS (a S hS h)
theorem Conn.symm {R : List (List Int)} {u v : Int} (a : Conn R u v) : Conn R v u := fun S hS h => Classical.byContradiction fun n =>
  a (fun x => ¬ S x) (fun c hc x hx y hy nx sy => nx (hS c hc y hy x hx sy)) n h
theorem Conn.of {R : List (List Int)} {c : List Int} {a b : Int} (hc : c ∈ R) (ha : a ∈ c) (hb : b ∈ c) : Conn R (ab a) (ab b) := fun S hS h => hS c hc a ha b hb h

structure LeadOk (R : List (List Int)) (ld : Int → Int) : Prop where
  same : ∀ c ∈ R, ∀ a ∈ c, ∀ b ∈ c, ld (ab a) = ld (ab b)
  conn : ∀ v ∈ varsM R, Conn R v (ld v)
  le : ∀ v ∈ varsM R, ld v ≤ v
def lead (ld : Int → Int) (c : List Int) : Int := match c with
  | [] => 0
  | l :: _ => ld (ab l)
def grp (R : List (List Int)) (ld : Int → Int) (m : Int) : List (List Int) := R.filter fun c => decide (lead ld c = m)
section
variable {R : List (List Int)} {ld : Int → Int}
theorem lead_of (L : LeadOk R ld) {c : List Int} (hc : c ∈ R) {l : Int} (hl : l ∈ c) : lead ld c = ld (ab l) := by
  cases c with
  | nil => cases hl
  | cons x r => exact L.same _ hc x List.mem_cons_self l hl
theorem mem_grp {m : Int} {c : List Int} : c ∈ grp R ld m ↔ c ∈ R ∧ lead ld c = m := by
  unfold grp
  rw [List.mem_filter, decide_eq_true_eq]
theorem vars_of_mem {c : List Int} (hc : c ∈ R) {l : Int} (hl : l ∈ c) : ab l ∈ varsM R := mem_varsM.mpr ⟨c, hc, l, hl, rfl⟩
/-- the variables of a group are a closed set -/
theorem grp_closed (L : LeadOk R ld) (m : Int) : Closed R (fun v => v ∈ varsM (grp R ld m)) := fun c hc a ha b hb h => by
  obtain ⟨d, hd, l, hl, e⟩ := mem_varsM.mp h
  obtain ⟨hdR, hdm⟩ := mem_grp.mp hd
  have e1 : lead ld c = m := by
    rw [lead_of L hc ha, ← e, ← lead_of L hdR hl]
    exact hdm
  exact vars_of_mem (mem_grp.mpr ⟨hc, e1⟩) hb
theorem grp_lead {m v : Int} (L : LeadOk R ld) (h : v ∈ varsM (grp R ld m)) : ld v = m := by
  obtain ⟨d, hd, l, hl, e⟩ := mem_varsM.mp h
  obtain ⟨hdR, hdm⟩ := mem_grp.mp hd
  rw [← e, ← lead_of L hdR hl]
  exact hdm
theorem grp_sub {m v : Int} (h : v ∈ varsM (grp R ld m)) : v ∈ varsM R := by
  obtain ⟨d, hd, l, hl, e⟩ := mem_varsM.mp h
  exact mem_varsM.mpr ⟨d, (mem_grp.mp hd).1, l, hl, e⟩
theorem grp_has {m v : Int} (L : LeadOk R ld) (h : v ∈ varsM (grp R ld m)) : m ∈ varsM (grp R ld m) := by
  have h1 := L.conn v (grp_sub h) _ (grp_closed L m) h
  rw [grp_lead L h] at h1
  exact h1
theorem grp_least {m v : Int} (L : LeadOk R ld) (h : v ∈ varsM (grp R ld m)) : m ≤ v := by
  have h1 := L.le v (grp_sub h)
  rw [grp_lead L h] at h1
  exact h1
/-- the first variable of a group is its leader -/
theorem grp_head {m : Int} {c : List Int} (L : LeadOk R ld) (hc : c ∈ R) (hn : c ≠ []) (hm : lead ld c = m) : ∃ t, varsM (grp R ld m) = m :: t := by
  obtain ⟨l, r, rfl⟩ := List.exists_cons_of_ne_nil hn
  have hv : ab l ∈ varsM (grp R ld m) := vars_of_mem (mem_grp.mpr ⟨hc, hm⟩) List.mem_cons_self
  have hmm := grp_has L hv
  cases e : varsM (grp R ld m) with
  | nil =>
    rw [e] at hv
    cases hv
  | cons x t =>
    have hx : m ≤ x := grp_least L (by rw [e]; exact List.mem_cons_self)
    have hp : (x :: t).Pairwise (· < ·) := by
      rw [← e]
      exact varsM_lt _
    rw [e] at hmm
    rcases List.mem_cons.mp hmm with q | q
    · exact ⟨t, by rw [q]⟩
    · have := (List.pairwise_cons.mp hp).1 m q
      omega

/-! ### the law's way -/
def touch (part : List (List Int)) (c : List Int) : Bool := c.any fun l => decide (ab l ∈ varsM part)
def partStep (rest part : List (List Int)) : List (List Int) := rest.filter (touch part)
def partIter (rest : List (List Int)) : Nat → List (List Int)
  | 0 => rest.take 1
  | k + 1 => partStep rest (partIter rest k)
def partOf (rest : List (List Int)) : List (List Int) := partIter rest rest.length
def foundM : Nat → List (List Int) → List (List (List Int))
  | 0, _ => []
  | n + 1, rest => match rest with
    | [] => []
    | c :: r => resM (partOf (c :: r)) :: foundM n ((c :: r).filter fun d => decide (¬ d ∈ partOf (c :: r)))
def lawPartsM (R : List (List Int)) : List (List (List Int)) := (foundM (R.length + 1) R).mergeSort (dataLe false fun P => dI (varsM P))

theorem touch_iff {part : List (List Int)} {c : List Int} : touch part c = true ↔ ∃ l ∈ c, ∃ d ∈ part, ∃ k ∈ d, ab k = ab l := by
  unfold touch
  rw [List.any_eq_true]
  constructor
  · rintro ⟨l, hl, h⟩
    obtain ⟨d, hd, k, hk, e⟩ := mem_varsM.mp (of_decide_eq_true h)
    exact ⟨l, hl, d, hd, k, hk, e⟩
  · rintro ⟨l, hl, d, hd, k, hk, e⟩
    exact ⟨l, hl, decide_eq_true (mem_varsM.mpr ⟨d, hd, k, hk, e⟩)⟩
theorem partIter_sub {rest : List (List Int)} : ∀ {k : Nat} {c : List Int}, c ∈ partIter rest k → c ∈ rest
  | 0, c, h => List.mem_of_mem_take h
  | k + 1, c, h => (List.mem_filter.mp h).1
theorem partIter_up {rest : List (List Int)} (hn : ∀ c ∈ rest, c ≠ []) {k : Nat} {c : List Int} (h : c ∈ partIter rest k) : c ∈ partIter rest (k + 1) := by
  have hc := partIter_sub h
  obtain ⟨l, r, e⟩ := List.exists_cons_of_ne_nil (hn c hc)
  refine List.mem_filter.mpr ⟨hc, touch_iff.mpr ⟨l, ?_, c, h, l, ?_, rfl⟩⟩
  · rw [e]
    exact List.mem_cons_self
  · rw [e]
    exact List.mem_cons_self
theorem touch_up {rest : List (List Int)} (hn : ∀ c ∈ rest, c ≠ []) {k : Nat} {c : List Int} (h : touch (partIter rest k) c = true) : touch (partIter rest (k + 1)) c = true := by
  obtain ⟨l, hl, d, hd, q⟩ := touch_iff.mp h
  exact touch_iff.mpr ⟨l, hl, d, partIter_up hn hd, q⟩
theorem filter_len {α : Type} {p q : α → Bool} (h : ∀ a, p a = true → q a = true) : ∀ xs : List α, (xs.filter p).length ≤ (xs.filter q).length ∧ ((xs.filter p).length = (xs.filter q).length → xs.filter p = xs.filter q)
  | [] => ⟨Nat.le_refl _, fun _ => rfl⟩
  | x :: xs => by
    obtain ⟨h1, h2⟩ := filter_len h xs
    cases hp : p x with
    | true =>
      rw [List.filter_cons_of_pos hp, List.filter_cons_of_pos (h x hp), List.length_cons, List.length_cons]
      exact ⟨Nat.succ_le_succ h1, fun e => by rw [h2 (Nat.succ.inj e)]⟩
    | false =>
      rw [List.filter_cons_of_neg (by rw [hp]; exact Bool.false_ne_true)]
      cases hq : q x with
      | true =>
        rw [List.filter_cons_of_pos hq, List.length_cons]
        exact ⟨Nat.le_succ_of_le h1, fun e => by omega⟩
      | false =>
        rw [List.filter_cons_of_neg (by rw [hq]; exact Bool.false_ne_true)]
        exact ⟨h1, h2⟩
/-- it stands still, or it has grown -/
theorem partIter_grow {rest : List (List Int)} (hn : ∀ c ∈ rest, c ≠ []) (h0 : rest ≠ []) : ∀ k : Nat, partIter rest (k + 2) = partIter rest (k + 1) ∨ k + 1 ≤ (partIter rest (k + 1)).length
  | 0 => by
    obtain ⟨c, r, rfl⟩ := List.exists_cons_of_ne_nil h0
    have hc : c ∈ partIter (c :: r) 1 := partIter_up hn (k := 0) (by show c ∈ [c]; exact List.mem_cons_self)
    exact .inr (List.length_pos_of_mem hc)
  | k + 1 => by
    rcases partIter_grow hn h0 k with h | h
    · left
      show partStep rest (partIter rest (k + 2)) = partStep rest (partIter rest (k + 1))
      rw [h]
    · have hl := filter_len (p := touch (partIter rest k)) (q := touch (partIter rest (k + 1))) (fun c => touch_up hn) rest
      by_cases e : (partIter rest (k + 1)).length = (partIter rest (k + 2)).length
      · left
        have e2 : partIter rest (k + 1) = partIter rest (k + 2) := hl.2 e
        show partStep rest (partIter rest (k + 2)) = partStep rest (partIter rest (k + 1))
        rw [← e2]
      · right
        have h1 : (partIter rest (k + 1)).length ≤ (partIter rest (k + 2)).length := hl.1
        show k + 1 + 1 ≤ (partIter rest (k + 2)).length
        omega
theorem partOf_still {rest : List (List Int)} (hn : ∀ c ∈ rest, c ≠ []) (h0 : rest ≠ []) : partStep rest (partOf rest) = partOf rest ∨ partOf rest = rest := by
  unfold partOf
  have hp : 0 < rest.length := List.length_pos_iff.mpr h0
  obtain ⟨k, hk⟩ : ∃ k, rest.length = k + 1 := ⟨rest.length - 1, by omega⟩
  rw [hk]
  rcases partIter_grow hn h0 k with h | h
  · exact .inl h
  · right
    have h1 : (partIter rest (k + 1)).length ≤ rest.length := List.length_filter_le _ _
    have h2 : (rest.filter (touch (partIter rest k))).length = rest.length := by
      show (partIter rest (k + 1)).length = rest.length
      omega
    exact List.filter_eq_self.mpr (List.length_filter_eq_length_iff.mp h2)

/-- what is left: whole groups -/
def RestOk (R : List (List Int)) (ld : Int → Int) (rest : List (List Int)) : Prop := ∃ D : Int → Bool, rest = R.filter fun c => D (lead ld c)
theorem part_lead (L : LeadOk R ld) {rest : List (List Int)} (hs : ∀ c ∈ rest, c ∈ R) {m : Int} (hm : ∀ c ∈ rest.take 1, lead ld c = m) : ∀ {k : Nat} {c : List Int}, c ∈ partIter rest k → lead ld c = m
  | 0, c, h => hm c h
  | k + 1, c, h => by
    obtain ⟨hc, ht⟩ := List.mem_filter.mp h
    obtain ⟨l, hl, d, hd, q, hq, e⟩ := touch_iff.mp ht
    have ih := part_lead L hs hm hd
    rw [lead_of L (hs c hc) hl, ← e, ← lead_of L (hs d (partIter_sub hd)) hq]
    exact ih
theorem mem_part (L : LeadOk R ld) (hn : ∀ c ∈ R, c ≠ []) {c : List Int} {r : List (List Int)} (hR : RestOk R ld (c :: r)) {d : List Int} (hd : d ∈ c :: r) : d ∈ partOf (c :: r) ↔ lead ld d = lead ld c := by
  obtain ⟨D, eD⟩ := hR
  have hs : ∀ d ∈ c :: r, d ∈ R := fun d h => by
    rw [eD] at h
    exact (List.mem_filter.mp h).1
  have hD : D (lead ld c) = true := by
    have h : c ∈ c :: r := List.mem_cons_self
    rw [eD] at h
    exact (List.mem_filter.mp h).2
  have hn' : ∀ d ∈ c :: r, d ≠ [] := fun d h => hn d (hs d h)
  have hm : ∀ d ∈ (c :: r).take 1, lead ld d = lead ld c := fun d h => by
    have h' : d ∈ [c] := h
    rw [List.mem_singleton.mp h']
  refine ⟨fun h => part_lead L hs hm h, fun h => ?_⟩
  rcases partOf_still hn' (List.cons_ne_nil c r) with st | st
  · -- the variables of the part are a closed set
    have hc0 : c ∈ partOf (c :: r) := by
      have key : ∀ k, c ∈ partIter (c :: r) k := fun k => by
        induction k with
        | zero => exact List.mem_cons_self
        | succ k ih => exact partIter_up hn' ih
      exact key _
    have cl : Closed R (fun v => v ∈ varsM (partOf (c :: r))) := fun e he a ha b hb hv => by
      obtain ⟨f, hf, k, hk, ek⟩ := mem_varsM.mp hv
      have hfr : f ∈ c :: r := partIter_sub hf
      have e1 : lead ld e = lead ld c := by
        rw [lead_of L he ha, ← ek, ← lead_of L (hs f hfr) hk]
        exact part_lead L hs hm hf
      have her : e ∈ c :: r := by
        rw [eD]
        exact List.mem_filter.mpr ⟨he, by rw [e1]; exact hD⟩
      have hep : e ∈ partOf (c :: r) := by
        rw [← st]
        exact List.mem_filter.mpr ⟨her, touch_iff.mpr ⟨a, ha, f, hf, k, hk, ek⟩⟩
      exact vars_of_mem hep hb
    obtain ⟨l0, r0, e0⟩ := List.exists_cons_of_ne_nil (hn' c List.mem_cons_self)
    obtain ⟨l1, r1, e1⟩ := List.exists_cons_of_ne_nil (hn' d hd)
    have h0 : l0 ∈ c := by rw [e0]; exact List.mem_cons_self
    have h1 : l1 ∈ d := by rw [e1]; exact List.mem_cons_self
    have v0 : ab l0 ∈ varsM (partOf (c :: r)) := vars_of_mem hc0 h0
    have cn : Conn R (ab l0) (ab l1) := by
      have a1 := L.conn (ab l0) (vars_of_mem (hs c List.mem_cons_self) h0)
      have a2 := L.conn (ab l1) (vars_of_mem (hs d hd) h1)
      rw [← lead_of L (hs c List.mem_cons_self) h0] at a1
      rw [← lead_of L (hs d hd) h1, h] at a2
      exact a1.trans a2.symm
    obtain ⟨f, hf, k, hk, ek⟩ := mem_varsM.mp (cn _ cl v0)
    rw [← st]
    exact List.mem_filter.mpr ⟨hd, touch_iff.mpr ⟨l1, h1, f, hf, k, hk, ek⟩⟩
  · rw [st]
    exact hd
theorem partOf_grp (L : LeadOk R ld) (hn : ∀ c ∈ R, c ≠ []) {c : List Int} {r : List (List Int)} (hR : RestOk R ld (c :: r)) (h1 : partOf (c :: r) = (c :: r).filter (fun d => decide (d ∈ partOf (c :: r)))) : partOf (c :: r) = grp R ld (lead ld c) := by
  obtain ⟨D, eD⟩ := id hR
  have hD : D (lead ld c) = true := by
    have h : c ∈ c :: r := List.mem_cons_self
    rw [eD] at h
    exact (List.mem_filter.mp h).2
  rw [h1]
  have e2 : (c :: r).filter (fun d => decide (d ∈ partOf (c :: r))) = (c :: r).filter (fun d => decide (lead ld d = lead ld c)) :=
    List.filter_congr fun d hd => decide_eq_decide.mpr (mem_part L hn hR hd)
  rw [e2]
  conv => lhs; rw [eD]
  rw [List.filter_filter]
  unfold grp
  refine List.filter_congr fun d _ => ?_
  by_cases e : lead ld d = lead ld c
  · rw [e, hD, Bool.and_true]
  · rw [decide_eq_false e, Bool.false_and]
theorem partOf_self (rest : List (List Int)) (h0 : rest ≠ []) : partOf rest = rest.filter (fun d => decide (d ∈ partOf rest)) := by
  have hp : 0 < rest.length := List.length_pos_iff.mpr h0
  obtain ⟨k, hk⟩ : ∃ k, rest.length = k + 1 := ⟨rest.length - 1, by omega⟩
  unfold partOf
  rw [hk]
  show rest.filter (touch (partIter rest k)) = _
  refine List.filter_congr fun d hd => ?_
  cases h : touch (partIter rest k) d with
  | true => exact (decide_eq_true (List.mem_filter.mpr ⟨hd, h⟩)).symm
  | false => exact (decide_eq_false fun q => by
      have q2 := (List.mem_filter.mp q).2
      rw [h] at q2
      cases q2).symm
/-- the leaders, in the order of their first clauses -/
def firsts : Nat → List Int → List Int
  | 0, _ => []
  | n + 1, ms => match ms with
    | [] => []
    | m :: r => m :: firsts n (r.filter fun x => decide (x ≠ m))
theorem mem_firsts {x : Int} : ∀ {n : Nat} {ms : List Int}, ms.length ≤ n → (x ∈ firsts n ms ↔ x ∈ ms)
  | 0, ms, h => by
    have e : ms = [] := List.length_eq_zero_iff.mp (Nat.le_zero.mp h)
    subst e
    exact Iff.rfl
  | n + 1, [], _ => Iff.rfl
  | n + 1, m :: r, h => by
    show x ∈ m :: firsts n (r.filter fun x => decide (x ≠ m)) ↔ _
    have hl : (r.filter fun x => decide (x ≠ m)).length ≤ n := Nat.le_trans (List.length_filter_le _ _) (Nat.le_of_succ_le_succ h)
    rw [List.mem_cons, List.mem_cons, mem_firsts hl, List.mem_filter, decide_eq_true_eq]
    constructor
    · rintro (q | q)
      · exact .inl q
      · exact .inr q.1
    · rintro (q | q)
      · exact .inl q
      · by_cases e : x = m
        · exact .inl e
        · exact .inr ⟨q, e⟩
theorem nodup_firsts : ∀ {n : Nat} {ms : List Int}, ms.length ≤ n → (firsts n ms).Nodup
  | 0, _, _ => List.nodup_nil
  | n + 1, [], _ => List.nodup_nil
  | n + 1, m :: r, h => by
    show (m :: firsts n (r.filter fun x => decide (x ≠ m))).Nodup
    have hl : (r.filter fun x => decide (x ≠ m)).length ≤ n := Nat.le_trans (List.length_filter_le _ _) (Nat.le_of_succ_le_succ h)
    refine List.nodup_cons.mpr ⟨fun q => ?_, nodup_firsts hl⟩
    rw [mem_firsts hl, List.mem_filter, decide_eq_true_eq] at q
    exact q.2 rfl
theorem found_eq (L : LeadOk R ld) (hn : ∀ c ∈ R, c ≠ []) : ∀ {n : Nat} {rest : List (List Int)}, rest.length ≤ n → RestOk R ld rest → foundM n rest = (firsts n (rest.map (lead ld))).map fun m => resM (grp R ld m)
  | 0, _, _, _ => rfl
  | n + 1, [], _, _ => rfl
  | n + 1, c :: r, h, hR => by
    have e1 := partOf_grp L hn hR (partOf_self _ (List.cons_ne_nil c r))
    have e2 : (c :: r).filter (fun d => decide (¬ d ∈ partOf (c :: r))) = r.filter fun d => decide (lead ld d ≠ lead ld c) := by
      rw [List.filter_congr (q := fun d => decide (lead ld d ≠ lead ld c)) fun d hd => decide_eq_decide.mpr (not_congr (mem_part L hn hR hd))]
      exact List.filter_cons_of_neg (by simp)
    have hl : (r.filter fun d => decide (lead ld d ≠ lead ld c)).length ≤ n := Nat.le_trans (List.length_filter_le _ _) (Nat.le_of_succ_le_succ h)
    have hR2 : RestOk R ld (r.filter fun d => decide (lead ld d ≠ lead ld c)) := by
      obtain ⟨D, eD⟩ := hR
      refine ⟨fun m => D m && decide (m ≠ lead ld c), ?_⟩
      have e3 : r.filter (fun d => decide (lead ld d ≠ lead ld c)) = (c :: r).filter (fun d => decide (lead ld d ≠ lead ld c)) := (List.filter_cons_of_neg (by simp)).symm
      rw [e3]
      conv => lhs; rw [eD]
      rw [List.filter_filter]
      exact List.filter_congr fun d _ => Bool.and_comm _ _
    show resM (partOf (c :: r)) :: foundM n ((c :: r).filter fun d => decide (¬ d ∈ partOf (c :: r))) = _
    rw [e2, found_eq L hn hl hR2, e1]
    show _ = resM (grp R ld (lead ld c)) :: (firsts n ((r.map (lead ld)).filter fun x => decide (x ≠ lead ld c))).map fun m => resM (grp R ld m)
    rw [List.filter_map]
    rfl
end

/-! ### the order of the parts -/
theorem dI_le {m n : Int} {t u : List Int} (h : m ≠ n) : dataLe false (fun b : List Int => dI b) (m :: t) (n :: u) = decide (m ≤ n) := by
  have e : dataLe false (fun b : List Int => dI b) (m :: t) (n :: u) = !(dataLt (dI (n :: u)) (dI (m :: t))) := rfl
  rw [e]
  have h2 : PyData.eqv (.int n) (.int m) = false := by
    simp only [PyData.eqv]
    exact beq_eq_false_iff_ne.mpr fun q => h q.symm
  have e2 : dataLt (dI (n :: u)) (dI (m :: t)) = dataLt (.int n) (.int m) := by
    unfold dI
    rw [List.map_cons, List.map_cons, dataLt_tuple]
    exact dataLt_all_no (by simp [alike]) h2
  rw [e2, dataLt_int]
  by_cases q : m ≤ n
  · rw [decide_eq_true q, decide_eq_false (by omega)]
    rfl
  · rw [decide_eq_false q, decide_eq_true (by omega)]
    rfl
theorem dI_le_self (t : List Int) : dataLe false (fun b : List Int => dI b) t t = true := by
  have e : dataLe false (fun b : List Int => dI b) t t = !(dataLt (dI t) (dI t)) := rfl
  rw [e]
  unfold dataLt
  rw [PyProof.Rows.lex_irrefl]
  rfl
/-- the program's parts are the law's -/
theorem parts_eq {R : List (List Int)} {ld : Int → Int} (L : LeadOk R ld) (hn : ∀ c ∈ R, c ≠ []) {ms : List Int} (hp : ms.Perm (once (R.map (lead ld)))) (hs : ms.Pairwise (· ≤ ·)) :
    ms.map (fun m => resM (grp R ld m)) = lawPartsM R := by
  unfold lawPartsM
  rw [found_eq L hn (n := R.length + 1) (rest := R) (Nat.le_succ _) ⟨fun _ => true, (List.filter_eq_self.mpr fun _ _ => rfl).symm⟩]
  have hl : (R.map (lead ld)).length ≤ R.length + 1 := by
    rw [List.length_map]
    exact Nat.le_succ _
  have e1 : ms = srtI (firsts (R.length + 1) (R.map (lead ld))) :=
    srtI_of (hp.trans (perm_nodup (nodup_once _) (nodup_firsts hl) fun x => mem_once.trans (mem_firsts hl).symm)) hs
  rw [e1]
  unfold srtI
  refine sort_maps (fun m => resM (grp R ld m)) fun m hm n hn' => ?_
  rw [mem_firsts hl, List.mem_map] at hm hn'
  obtain ⟨c, hc, ec⟩ := hm
  obtain ⟨d, hd, ed⟩ := hn'
  obtain ⟨t, et⟩ := grp_head L hc (hn c hc) ec
  obtain ⟨u, eu⟩ := grp_head L hd (hn d hd) ed
  have v1 : varsM (resM (grp R ld m)) = m :: t := (varsM_congr fun c => mem_resM).trans et
  have v2 : varsM (resM (grp R ld n)) = n :: u := (varsM_congr fun c => mem_resM).trans eu
  have e2 : dataLe false (fun P => dI (varsM P)) (resM (grp R ld m)) (resM (grp R ld n)) = dataLe false (fun b : List Int => dI b) (varsM (resM (grp R ld m))) (varsM (resM (grp R ld n))) := rfl
  rw [e2, v1, v2]
  by_cases q : m = n
  · subst q
    have e3 : m :: t = m :: u := v1.symm.trans v2
    rw [e3, dI_le_self]
    exact decide_eq_true (Int.le_refl _)
  · rw [dI_le q]
    rfl
end Cw

set_option Elab.async false
set_option linter.all false
set_option maxRecDepth 100000
set_option maxHeartbeats 1000000
/-! Data on the abstract heap, and what an expression evaluates to, told by a predicate. -/
namespace Cw
open PySem PySem.Spec PyProof.Rows L2 Evl

/-! ### data -/
/-- the tuples stand as they stood -/
def ExT (H H' : Hp) : Prop := ∀ a xs, H a = some (.tup xs) → H' a = some (.tup xs)
theorem ExT.of {H H' : Hp} (e : Ex H H') : ExT H H' := fun a _ h => e a _ h
theorem ExT.trans {H H1 H2 : Hp} (a : ExT H H1) (b : ExT H1 H2) : ExT H H2 := fun x o h => b x o (a x o h)
theorem ExT.refl (H : Hp) : ExT H H := fun _ _ h => h
theorem ExT.lst {H : Hp} {D : Addr} {xs : List V} {o : HO} (h : H D = some (.lst xs)) : ExT H (upd H D o) := fun a ys e => by
  rw [upd_ne (ne_of e h (by intro z; cases z))]
  exact e
theorem ExT.new {H : Hp} {D : Addr} {o : HO} (h : H D = none) : ExT H (upd H D o) := ExT.of (Ex.new h)

/-- a tracked tuple of ints | of such tuples -/
def TkL (H : Hp) (v : V) (ns : List Int) : Prop := ∃ a, v = .ref a ∧ H a = some (.tup (ns.map V.int))
def TkR (H : Hp) (v : V) (cs : List (List Int)) : Prop := ∃ a vs, v = .ref a ∧ H a = some (.tup vs) ∧ Paired (TkL H) vs cs
theorem paired_imp {α β : Type} {F G : α → β → Prop} (h : ∀ a b, F a b → G a b) : ∀ {xs : List α} {ys : List β}, Paired F xs ys → Paired G xs ys
  | _, _, .nil => .nil
  | _, _, .cons r t => .cons (h _ _ r) (paired_imp h t)
theorem paired_get {α β : Type} {F : α → β → Prop} : ∀ {xs : List α} {ys : List β} {i : Nat} {x : α}, Paired F xs ys → xs[i]? = some x → ∃ y, ys[i]? = some y ∧ F x y
  | _, _, i, x, .nil, e => by simp at e
  | _, _, 0, x, .cons r _, e => by
    have e' := Option.some.inj e
    subst e'
    exact ⟨_, rfl, r⟩
  | _, _, i + 1, x, .cons _ t, e => by
    obtain ⟨y, h1, h2⟩ := paired_get (i := i) (x := x) t (by simpa using e)
    exact ⟨y, by simpa using h1, h2⟩
theorem paired_snoc {α β : Type} {F : α → β → Prop} {a : α} {b : β} (h : F a b) : ∀ {xs : List α} {ys : List β}, Paired F xs ys → Paired F (xs ++ [a]) (ys ++ [b])
  | _, _, .nil => .cons h .nil
  | _, _, .cons r t => .cons r (paired_snoc h t)
theorem paired_take {α β : Type} {F : α → β → Prop} : ∀ {xs : List α} {ys : List β} (n : Nat), Paired F xs ys → Paired F (xs.take n) (ys.take n)
  | _, _, 0, _ => .nil
  | _, _, _ + 1, .nil => .nil
  | _, _, n + 1, .cons r t => .cons r (paired_take n t)
theorem paired_map {α β γ : Type} {F : α → β → Prop} {f : γ → α} {g : γ → β} (h : ∀ c, F (f c) (g c)) : ∀ cs : List γ, Paired F (cs.map f) (cs.map g)
  | [] => .nil
  | c :: cs => .cons (h c) (paired_map h cs)
theorem paired_map_r {α β γ : Type} {F : α → γ → Prop} {g : β → γ} : ∀ {xs : List α} {ys : List β}, Paired (fun a b => F a (g b)) xs ys → Paired F xs (ys.map g)
  | _, _, .nil => .nil
  | _, _, .cons r t => .cons r (paired_map_r t)
theorem TkL.mono {H H' : Hp} {v : V} {ns : List Int} (e : ExT H H') (h : TkL H v ns) : TkL H' v ns := by
  obtain ⟨a, rfl, h⟩ := h
  exact ⟨a, rfl, e a _ h⟩
theorem TkR.mono {H H' : Hp} {v : V} {cs : List (List Int)} (e : ExT H H') (h : TkR H v cs) : TkR H' v cs := by
  obtain ⟨a, vs, rfl, h, p⟩ := h
  exact ⟨a, vs, rfl, e a _ h, paired_imp (fun _ _ q => q.mono e) p⟩
/-- stable where the tuples stay -/
def Stb (P : Hp → V → Prop) : Prop := ∀ H H' v, ExT H H' → P H v → P H' v
/-- stable where all stays -/
def Mo (P : Hp → V → Prop) : Prop := ∀ H H' v, Ex H H' → P H v → P H' v
theorem Stb.mo {P : Hp → V → Prop} (h : Stb P) : Mo P := fun H H' v e p => h H H' v (ExT.of e) p
theorem stb_L (ns : List Int) : Stb (fun H v => TkL H v ns) := fun _ _ _ e h => h.mono e
theorem stb_R (cs : List (List Int)) : Stb (fun H v => TkR H v cs) := fun _ _ _ e h => h.mono e
theorem stb_eq (x : V) : Stb (fun _ v => v = x) := fun _ _ _ _ h => h

/-! ### data as the library reads them -/
section
variable {K : PySem.W.Frag} {H : Hp}
theorem dp_ints : ∀ ns : List Int, DpAll K H (ns.map V.int) (ns.map .int)
  | [] => .nil
  | n :: ns => .cons (.int n) (dp_ints ns)
theorem TkL.dp {v : V} {ns : List Int} (h : TkL H v ns) : Dp K H v (dI ns) := by
  obtain ⟨a, rfl, h⟩ := h
  exact .tup (st_of h) (dp_ints ns)
theorem dp_all {α : Type} {P : V → α → Prop} {f : α → PyData} (h : ∀ v c, P v c → Dp K H v (f c)) : ∀ {vs : List V} {cs : List α}, Paired P vs cs → DpAll K H vs (cs.map f)
  | _, _, .nil => .nil
  | _, _, .cons r t => .cons (h _ _ r) (dp_all h t)
theorem TkR.dp {v : V} {cs : List (List Int)} (h : TkR H v cs) : Dp K H v (dR cs) := by
  obtain ⟨a, vs, rfl, h, p⟩ := h
  exact .tup (st_of h) (dp_all (fun _ _ q => q.dp) p)
mutual
theorem dp_mono {H' : Hp} (e : Ex H H') : ∀ (d : PyData) (v : V), Dp K H v d → Dp K H' v d
  | .none, _, h => by
    cases h
    exact .non
  | .bool b, _, h => by
    cases h
    exact .bl b
  | .int i, _, h => by
    cases h
    exact .int i
  | .str x, _, h => by
    cases h
    exact .str x
  | .list ds, _, h => by
    cases h with
    | lst h1 h2 => exact .lst (ex_l e h1) (dpAll_mono e ds _ h2)
  | .tuple ds, _, h => by
    cases h with
    | tup h1 h2 => exact .tup (ex_t e h1) (dpAll_mono e ds _ h2)
  | .dict _, _, h => by cases h
theorem dpAll_mono {H' : Hp} (e : Ex H H') : ∀ (ds : List PyData) (vs : List V), DpAll K H vs ds → DpAll K H' vs ds
  | [], _, h => by
    cases h
    exact .nil
  | d :: ds, _, h => by
    cases h with
    | cons h1 h2 => exact .cons (dp_mono e d _ h1) (dpAll_mono e ds _ h2)
end
theorem mo_D (K : PySem.W.Frag) (d : PyData) : Mo (fun H v => Dp K H v d) := fun _ _ v e h => dp_mono e d v h
end
/-! shapes -/
theorem lay_all {α : Type} {f : α → PyData} (h : ∀ a, (f a).canLay0 = true) : ∀ xs : List α, PyData.canLayAll0 (xs.map f) = true
  | [] => by simp [PyData.canLayAll0]
  | x :: xs => by simp [PyData.canLayAll0, h x, lay_all h xs]
theorem depth_all {α : Type} {f : α → PyData} {n : Nat} (h : ∀ a, (f a).depth ≤ n) : ∀ xs : List α, PyData.depthAll (xs.map f) ≤ n
  | [] => by simp [PyData.depthAll]
  | x :: xs => by
    have h1 := h x
    have h2 := depth_all h xs
    simp only [List.map_cons, PyData.depthAll]
    omega
theorem lay_I (ns : List Int) : (dI ns).canLay0 = true := by
  show PyData.canLay0 (.tuple (ns.map .int)) = true
  simp only [PyData.canLay0]
  exact lay_all (fun a => by simp [PyData.canLay0]) ns
theorem depth_I (ns : List Int) : (dI ns).depth ≤ 1 := by
  have h := depth_all (f := PyData.int) (n := 0) (fun a => by simp [PyData.depth]) ns
  show PyData.depth (.tuple (ns.map .int)) ≤ 1
  simp only [PyData.depth]
  omega
theorem lay_R (cs : List (List Int)) : (dR cs).canLay0 = true := by
  show PyData.canLay0 (.tuple (cs.map dI)) = true
  simp only [PyData.canLay0]
  exact lay_all lay_I cs
theorem depth_R (cs : List (List Int)) : (dR cs).depth ≤ 2 := by
  have h := depth_all depth_I cs
  show PyData.depth (.tuple (cs.map dI)) ≤ 2
  simp only [PyData.depth]
  omega
theorem lay_L {α : Type} {f : α → PyData} (h : ∀ a, (f a).canLay0 = true) (xs : List α) : (PyData.list (xs.map f)).canLay0 = true := by
  simp only [PyData.canLay0]
  exact lay_all h xs
theorem depth_L {α : Type} {f : α → PyData} {n : Nat} (h : ∀ a, (f a).depth ≤ n) (xs : List α) : (PyData.list (xs.map f)).depth ≤ n + 1 := by
  have h := depth_all h xs
  simp only [PyData.depth]
  omega
theorem shaped_of {d : PyData} (h1 : d.canLay0 = true) (h2 : d.depth ≤ 64) : SeqAt.shaped d = true := by
  show (d.canLay0 && decide (d.depth ≤ 64)) = true
  rw [h1, decide_eq_true h2]
  rfl
theorem shaped_I (ns : List Int) : SeqAt.shaped (dI ns) = true := shaped_of (lay_I ns) (Nat.le_trans (depth_I ns) (by decide))
theorem shaped_R (cs : List (List Int)) : SeqAt.shaped (dR cs) = true := shaped_of (lay_R cs) (Nat.le_trans (depth_R cs) (by decide))
theorem shaped_LI (cs : List (List Int)) : SeqAt.shaped (.list (cs.map dI)) = true := shaped_of (lay_L lay_I cs) (Nat.le_trans (depth_L depth_I cs) (by decide))
theorem shaped_Li (ns : List Int) : SeqAt.shaped (.list (ns.map .int)) = true :=
  shaped_of (lay_L (fun a => by simp [PyData.canLay0]) ns) (Nat.le_trans (depth_L (f := PyData.int) (n := 0) (fun a => by simp [PyData.depth]) ns) (by decide))
theorem shaped_LR (ps : List (List (List Int))) : SeqAt.shaped (.list (ps.map dR)) = true := shaped_of (lay_L lay_R ps) (Nat.le_trans (depth_L depth_R ps) (by decide))
/-! equality -/
theorem eqv_int (a b : Int) : PyData.eqv (.int a) (.int b) = decide (a = b) := by
  simp only [PyData.eqv]
  exact Bool.beq_eq_decide_eq a b
theorem eqv_all {α : Type} [DecidableEq α] {f : α → PyData} (h : ∀ a b, PyData.eqv (f a) (f b) = decide (a = b)) : ∀ xs ys : List α, PyData.eqvAll (xs.map f) (ys.map f) = decide (xs = ys)
  | [], [] => by simp [PyData.eqvAll]
  | [], y :: ys => by simp [PyData.eqvAll]
  | x :: xs, [] => by simp [PyData.eqvAll]
  | x :: xs, y :: ys => by
    rw [List.map_cons, List.map_cons, PySem.W.eqv_all_cons, h, eqv_all h xs ys]
    by_cases e : x = y
    · subst e
      by_cases e2 : xs = ys
      · subst e2
        simp
      · rw [decide_eq_true rfl, decide_eq_false e2, decide_eq_false fun z => e2 (List.cons.inj z).2]
        rfl
    · rw [decide_eq_false e, decide_eq_false fun z => e (List.cons.inj z).1]
      rfl
theorem eqv_I (a b : List Int) : PyData.eqv (dI a) (dI b) = decide (a = b) := by
  show PyData.eqv (.tuple (a.map .int)) (.tuple (b.map .int)) = _
  simp only [PyData.eqv]
  exact eqv_all eqv_int a b
theorem eqv_R (a b : List (List Int)) : PyData.eqv (dR a) (dR b) = decide (a = b) := by
  show PyData.eqv (.tuple (a.map dI)) (.tuple (b.map dI)) = _
  simp only [PyData.eqv]
  exact eqv_all eqv_I a b
theorem eqv_L {α : Type} [DecidableEq α] {f : α → PyData} (h : ∀ a b, PyData.eqv (f a) (f b) = decide (a = b)) (a b : List α) : PyData.eqv (.list (a.map f)) (.list (b.map f)) = decide (a = b) := by
  simp only [PyData.eqv]
  exact eqv_all h a b

/-! ### what an expression evaluates to -/
def EvP (te : TE) (σ : L2.St) (H : Hp) (P : Hp → V → Prop) : Prop := ∀ H1, Ex H H1 → ∀ Q : VK, (∀ v H2, Ex H1 H2 → P H2 v → Q v H2) → te σ H1 Q
def EvPA (ta : TA) (σ : L2.St) (H : Hp) (P : Hp → List V → Prop) : Prop := ∀ H1, Ex H H1 → ∀ Q : List V → Hp → Prop, (∀ vs H2, Ex H1 H2 → P H2 vs → Q vs H2) → ta σ H1 Q
/-- a promise, a rule by values -/
def SpP (sp : Sp) (vs : List V) (H : Hp) (P : Hp → V → Prop) : Prop := ∀ H1, Ex H H1 → ∀ Q : VK, (∀ v H2, Ex H1 H2 → P H2 v → Q v H2) → ∀ E : XK, sp vs H1 Q E
def RvP (r : R2) (x y : V) (H : Hp) (P : Hp → V → Prop) : Prop := ∀ Q : VK, (∀ v H2, Ex H H2 → P H2 v → Q v H2) → r x y H Q
def RcP (r : List V → Hp → VK → Prop) (vs : List V) (H : Hp) (P : Hp → V → Prop) : Prop := ∀ Q : VK, (∀ v H2, Ex H H2 → P H2 v → Q v H2) → r vs H Q
section
variable {K : PySem.W.Frag} {σ : L2.St} {H H' : Hp} {ta tb te tx : TE} {t u : TT} {x y z v : V} {r : R2} {P P1 P2 : Hp → V → Prop}
theorem EvP.mono (e : Ex H H') (h : EvP te σ H P) : EvP te σ H' P := fun H1 a Q q => h H1 (e.trans a) Q q
theorem ep_of (h : Ev te σ H v) (hp : ∀ H1, Ex H H1 → P H1 v) : EvP te σ H P := fun H1 e Q q => h H1 e Q fun H2 e2 => q v H2 e2 (hp H2 (e.trans e2))
theorem ev_of (h : EvP te σ H (fun _ w => w = v)) : Ev te σ H v := fun H1 e Q q => h H1 e Q fun w H2 e2 hw => by
  subst hw
  exact q H2 e2
theorem ep_var {i : Nat} (h : σ[i]? = some (some v)) (m : Mo P) (hp : P H v) : EvP (tVar i) σ H P := ep_of (ev_var h) fun H1 e => m H H1 v e hp
theorem ep_imp (h : EvP te σ H P1) (hi : ∀ w H1, Ex H H1 → P1 H1 w → P H1 w) : EvP te σ H P := fun H1 e Q q => h H1 e Q fun w H2 e2 hw => q w H2 e2 (hi w H2 (e.trans e2) hw)
theorem ep_op (ha : EvP ta σ H P1) (m : Mo P1) (hb : ∀ w H1, Ex H H1 → P1 H1 w → EvP tb σ H1 P2) (hr : ∀ w w' H1, Ex H H1 → P1 H1 w → P2 H1 w' → RvP r w w' H1 P) : EvP (tOp r ta tb) σ H P := fun H1 e Q q =>
  ha H1 e _ fun w H2 e2 hw => hb w H2 (e.trans e2) hw H2 (Ex.refl H2) _ fun w' H3 e3 hw' => hr w w' H3 ((e.trans e2).trans e3) (m H2 H3 w e3 hw) hw' Q fun z H4 e4 hz => q z H4 ((e2.trans e3).trans e4) hz
/-- a list display, a tuple display, a call: one and two arguments -/
theorem ep_a1 (ha : EvP ta σ H P1) : EvPA (tCons ta tNil) σ H (fun H2 vs => ∃ w, vs = [w] ∧ P1 H2 w) := fun H1 e Q q =>
  ha H1 e _ fun w H2 e2 hw => q [w] H2 e2 ⟨w, rfl, hw⟩
theorem ep_a2 (ha : EvP ta σ H P1) (m : Mo P1) (hb : ∀ w H1, Ex H H1 → P1 H1 w → EvP tb σ H1 P2) : EvPA (tCons ta (tCons tb tNil)) σ H (fun H2 vs => ∃ w w', vs = [w, w'] ∧ P1 H2 w ∧ P2 H2 w') := fun H1 e Q q =>
  ha H1 e _ fun w H2 e2 hw => hb w H2 (e.trans e2) hw H2 (Ex.refl H2) _ fun w' H3 e3 hw' => q [w, w'] H3 (e2.trans e3) ⟨w, w', rfl, m H2 H3 w e3 hw, hw'⟩
theorem ep_cb {r : List V → Hp → VK → Prop} {ta : TA} {PA : Hp → List V → Prop} (h : EvPA ta σ H PA) (hr : ∀ vs H1, Ex H H1 → PA H1 vs → RcP r vs H1 P) : EvP (tCB r ta) σ H P := fun H1 e Q q =>
  h H1 e _ fun vs H2 e2 hv => hr vs H2 (e.trans e2) hv Q fun v H3 e3 p => q v H3 (e2.trans e3) p
theorem ep_call {sp : Sp} {E : XK} {ta : TA} {PA : Hp → List V → Prop} (h : EvPA ta σ H PA) (hs : ∀ vs H1, Ex H H1 → PA H1 vs → SpP sp vs H1 P) : EvP (tCall sp [] E ta) σ H P := fun H1 e Q q =>
  h H1 e _ fun vs H2 e2 hv => by
    rw [List.append_nil]
    exact hs vs H2 (e.trans e2) hv H2 (Ex.refl H2) Q (fun v H3 e3 p => q v H3 (e2.trans e3) p) E
theorem ep_tup {ta : TA} {PA : Hp → List V → Prop} (h : EvPA ta σ H PA) (hl : ∀ vs H1, PA H1 vs → vs.length ≤ 100000) (hp : ∀ vs H1 p, Ex H H1 → PA H1 vs → H1 p = none → P (upd H1 p (.tup vs)) (.ref p)) : EvP (tTup ta) σ H P := fun H1 e Q q =>
  h H1 e _ fun vs H2 e2 hv => ⟨sz_of (hl vs H2 hv), fun p np => q _ _ (e2.trans (Ex.new np)) (hp vs H2 p (e.trans e2) hv np)⟩
theorem ep_lst {ta : TA} {PA : Hp → List V → Prop} (h : EvPA ta σ H PA) (hl : ∀ vs H1, PA H1 vs → vs.length ≤ 100000) (hp : ∀ vs H1 p, Ex H H1 → PA H1 vs → H1 p = none → P (upd H1 p (.lst vs)) (.ref p)) : EvP (tLst ta) σ H P := fun H1 e Q q =>
  h H1 e _ fun vs H2 e2 hv => ⟨sz_of (hl vs H2 hv), fun p np => q _ _ (e2.trans (Ex.new np)) (hp vs H2 p (e.trans e2) hv np)⟩
theorem ep_if {b : Bool} (h : EvT t σ H b) (h1 : b = true → EvP ta σ H P) (h2 : b = false → EvP tb σ H P) : EvP (tIf t ta tb) σ H P := fun H1 e Q q => h H1 e _ fun H2 e2 => by
  cases b with
  | true =>
    show ta σ H2 Q
    exact h1 rfl H2 (e.trans e2) Q fun v H3 e3 p => q v H3 (e2.trans e3) p
  | false =>
    show tb σ H2 Q
    exact h2 rfl H2 (e.trans e2) Q fun v H3 e3 p => q v H3 (e2.trans e3) p
/-- a test by an operator -/
theorem et_op {b : Bool} (ha : EvP ta σ H P1) (m : Mo P1) (hb : ∀ w H1, Ex H H1 → P1 H1 w → EvP tb σ H1 P2) (hr : ∀ w w' H1, Ex H H1 → P1 H1 w → P2 H1 w' → RvP r w w' H1 (fun _ z => z = .bl b)) : EvT (tTest (tOp r ta tb)) σ H b :=
  et_test (ev_of (ep_op ha m hb hr))
theorem et_call {sp : Sp} {E : XK} {ta : TA} {PA : Hp → List V → Prop} {b : Bool} (h : EvPA ta σ H PA) (hs : ∀ vs H1, Ex H H1 → PA H1 vs → SpP sp vs H1 (fun _ z => z = .bl b)) : EvT (tB (tCall sp [] E ta)) σ H b :=
  et_B (ev_of (ep_call h hs))

/-! statements -/
variable {D : Ends} {tu tw tz : TS}
theorem p_asg {i : Nat} (h : EvP te σ H P) (k : ∀ v H1, Ex H H1 → P H1 v → D.nx (σ.set i (some v)) H1) : tAsg te (gName i) D σ H := h H (Ex.refl H) _ fun v H1 e p => k v H1 e p
theorem p_asgS {i : Nat} (h : EvP te σ H P) (k : ∀ v H1, Ex H H1 → P H1 v → tz D (σ.set i (some v)) H1) : tSeq (tAsg te (gName i)) tz D σ H := p_asg (D := { D with nx := tz D }) h k
theorem p_ret (h : EvP te σ H P) (k : ∀ v H1, Ex H H1 → P H1 v → D.rt v H1) : tRet te D σ H := h H (Ex.refl H) _ k
/-- xs.append(e) -/
theorem p_app {l : Addr} {xs : List V} (hl : H l = some (.lst xs)) (ha : Ev ta σ H (.ref l)) (h : EvP te σ H P) (hz : xs.length < 100000) (k : ∀ v H1, Ex H H1 → P H1 v → D.nx σ (upd H1 l (.lst (xs ++ [v])))) :
    tDrop (tBM K "list" rAppend ta (tCons te tNil)) D σ H := ha H (Ex.refl H) _ fun H1 e1 =>
  ⟨Or.inl ⟨rfl, xs, sq_of (e1 l _ hl)⟩, h H1 e1 _ fun v H2 e2 p => ⟨l, xs, v, rfl, rfl, e2 l _ (e1 l _ hl), sz_lt hz, k v H2 (e1.trans e2) p⟩⟩
theorem p_appS {l : Addr} {xs : List V} (hl : H l = some (.lst xs)) (ha : Ev ta σ H (.ref l)) (h : EvP te σ H P) (hz : xs.length < 100000) (k : ∀ v H1, Ex H H1 → P H1 v → tz D σ (upd H1 l (.lst (xs ++ [v])))) :
    tSeq (tDrop (tBM K "list" rAppend ta (tCons te tNil))) tz D σ H := p_app (D := { D with nx := tz D }) hl ha h hz k
end
/-! ### comprehensions -/
section
variable {K : PySem.W.Frag} {σ : L2.St} {H : Hp} {te : TE} {t : TT} {α β : Type}
theorem ey {σ : L2.St} {H : Hp} : EvT tYes σ H true := fun H1 _ _ q => q H1 (Ex.refl H1)
theorem fm_next {f : α → Option β} {as : List α} {i : Nat} {a : α} (h : as[i]? = some a) : (as.take (i + 1)).filterMap f = (as.take i).filterMap f ++ (f a).toList := by
  rw [List.take_add_one, h, List.filterMap_append]
  cases hf : f a with
  | none => simp [hf]
  | some b => simp [hf]
def Lcw (H : Hp) (Pb : β → Hp → V → Prop) (f : α → Option β) (as : List α) (D : Addr) (i : Nat) (H' : Hp) : Prop :=
  H D = none ∧ Ex H H' ∧ ∃ ys, H' D = some (.lst ys) ∧ ys.length ≤ i ∧ Paired (fun y b => Pb b H' y) ys ((as.take i).filterMap f)
theorem lcw_turn {Pb : β → Hp → V → Prop} {f : α → Option β} {as : List α} {D : Addr} {i : Nat} {a : α} {H' : Hp} {σ2 : L2.St} (hs : ∀ b, Stb (Pb b)) (w : Lcw H Pb f as D i H') (ha : as[i]? = some a) (hi : i < 50000)
    (ht : EvT t σ2 H (f a).isSome) (he : ∀ b, f a = some b → EvP te σ2 H (Pb b)) :
    t σ2 H' fun b H3 => if b = true then te σ2 H3 fun y H4 => ∃ acc, H4 D = some (.lst acc) ∧ acc.length < sizeLine ∧ Lcw H Pb f as D (i + 1) (upd H4 D (.lst (acc ++ [y]))) else Lcw H Pb f as D (i + 1) H3 := by
  obtain ⟨nD, e, ys, hD, hl, pr⟩ := w
  refine ht H' e _ fun H3 e3 => ?_
  cases hf : f a with
  | none =>
    show Lcw H Pb f as D (i + 1) H3
    refine ⟨nD, e.trans e3, ys, e3 D _ hD, Nat.le_succ_of_le hl, ?_⟩
    rw [fm_next ha, hf]
    show Paired _ ys (_ ++ [])
    rw [List.append_nil]
    exact paired_imp (fun y b q => hs b H' H3 y (ExT.of e3) q) pr
  | some b =>
    show te σ2 H3 fun y H4 => ∃ acc, H4 D = some (.lst acc) ∧ acc.length < sizeLine ∧ Lcw H Pb f as D (i + 1) (upd H4 D (.lst (acc ++ [y])))
    refine he b hf H3 (e.trans e3) _ fun y H4 e4 hy => ?_
    have hD4 : H4 D = some (.lst ys) := e4 D _ (e3 D _ hD)
    refine ⟨ys, hD4, sz_lt (by omega), nD, Ex.mut ((e.trans e3).trans e4) nD, ys ++ [y], upd_same, by rw [List.length_append]; exact Nat.succ_le_succ hl, ?_⟩
    have x4 : ExT H4 (upd H4 D (.lst (ys ++ [y]))) := ExT.lst hD4
    rw [fm_next ha, hf]
    have pr2 : Paired (fun z c => Pb c (upd H4 D (.lst (ys ++ [y]))) z) ys ((as.take i).filterMap f) := paired_imp (fun z c q => hs c H' _ z ((ExT.of (e3.trans e4)).trans x4) q) pr
    have pr3 := paired_snoc (F := fun z c => Pb c (upd H4 D (.lst (ys ++ [y]))) z) (a := y) (b := b) (hs b H4 _ y x4 hy) pr2
    exact pr3
/-- the made list -/
def LsP (Pb : β → Hp → V → Prop) (bs : List β) (H : Hp) (v : V) : Prop := ∃ p ys, v = .ref p ∧ H p = some (.lst ys) ∧ Paired (fun y b => Pb b H y) ys bs
theorem ep_lcL {tl : TE} {j : Nat} {vs : List Nat} {xs : List V} {as : List α} {P0 : V → α → Prop} {Pb : β → Hp → V → Prop} (f : α → Option β) (hs : ∀ b, Stb (Pb b)) (h : EvP tl σ H (fun H1 v => ∃ a, v = .ref a ∧ SqL K H1 a xs)) (h0 : Paired P0 xs as) (hz : xs.length ≤ 40000)
    (hw : ∀ x, wipe ((wipe σ vs).set j (some x)) vs = wipe σ vs) (ht : ∀ x a H1, Ex H H1 → P0 x a → a ∈ as → EvT t ((wipe σ vs).set j (some x)) H1 (f a).isSome) (he : ∀ x a b H1, Ex H H1 → P0 x a → a ∈ as → f a = some b → EvP te ((wipe σ vs).set j (some x)) H1 (Pb b)) :
    EvP (tLc (iList K tl) (gName j) t te vs) σ H (LsP Pb (as.filterMap f)) := fun H0 e Q q => h H0 e _ fun v H1 e1 hv => by
  obtain ⟨a, rfl, hx⟩ := hv
  have hl : xs.length = as.length := Paired.length h0
  refine ⟨a, rfl, ⟨xs, hx⟩, fun D nD => lc_list (xs := xs) (Lcw H1 Pb f as D) ⟨nD, Ex.new nD, [], upd_same, Nat.le_refl _, by rw [List.take_zero]; exact .nil⟩ (fun i H' _ w => ex_l w.2.1 hx) (fun i x H' hi w => ?_) fun H' w => ?_⟩
  · obtain ⟨b, hb, p0⟩ := paired_get h0 hi
    have hlt := (List.getElem?_eq_some_iff.mp hi).1
    have hm := List.mem_of_getElem? hb
    exact ⟨hw x, lcw_turn hs w hb (by omega) (ht x b H1 (e.trans e1) p0 hm) fun c hc => he x b c H1 (e.trans e1) p0 hm hc⟩
  · obtain ⟨_, e', ys, hD, _, pr⟩ := w
    rw [hl, List.take_length] at pr
    exact q _ _ (e1.trans e') ⟨D, ys, rfl, hD, pr⟩
theorem ep_lcT {tl : TE} {j : Nat} {vs : List Nat} {xs : List V} {as : List α} {P0 : V → α → Prop} {Pb : β → Hp → V → Prop} (f : α → Option β) (hs : ∀ b, Stb (Pb b)) (h : EvP tl σ H (fun H1 v => ∃ a, v = .ref a ∧ SqT K H1 a xs)) (h0 : Paired P0 xs as) (hz : xs.length ≤ 40000)
    (hw : ∀ x, wipe ((wipe σ vs).set j (some x)) vs = wipe σ vs) (ht : ∀ x a H1, Ex H H1 → P0 x a → a ∈ as → EvT t ((wipe σ vs).set j (some x)) H1 (f a).isSome) (he : ∀ x a b H1, Ex H H1 → P0 x a → a ∈ as → f a = some b → EvP te ((wipe σ vs).set j (some x)) H1 (Pb b)) :
    EvP (tLc (iTup K tl) (gName j) t te vs) σ H (LsP Pb (as.filterMap f)) := fun H0 e Q q => h H0 e _ fun v H1 e1 hv => by
  obtain ⟨a, rfl, hx⟩ := hv
  have hl : xs.length = as.length := Paired.length h0
  refine ⟨a, rfl, ⟨xs, hx⟩, fun D nD => lc_tup (xs := xs) (Lcw H1 Pb f as D) ⟨nD, Ex.new nD, [], upd_same, Nat.le_refl _, by rw [List.take_zero]; exact .nil⟩ (fun i H' _ w => ex_t w.2.1 hx) (fun i x H' hi w => ?_) fun H' w => ?_⟩
  · obtain ⟨b, hb, p0⟩ := paired_get h0 hi
    have hlt := (List.getElem?_eq_some_iff.mp hi).1
    have hm := List.mem_of_getElem? hb
    exact ⟨hw x, lcw_turn hs w hb (by omega) (ht x b H1 (e.trans e1) p0 hm) fun c hc => he x b c H1 (e.trans e1) p0 hm hc⟩
  · obtain ⟨_, e', ys, hD, _, pr⟩ := w
    rw [hl, List.take_length] at pr
    exact q _ _ (e1.trans e') ⟨D, ys, rfl, hD, pr⟩
end
end Cw

set_option Elab.async false
set_option linter.all false
set_option maxRecDepth 100000
set_option maxHeartbeats 2000000
/-! Sorting by keys that are tuples, some of them empty. -/
namespace Cw
open PySem PySem.W PySem.SeqAt PySem.Calls PyProof.Rows

section
variable {prog : Program} {w : World} {A : Around} {E : Value → Shared → Prop} {s : Shared}
/-- tuple.__lt__ as the sort asks it -/
theorem call_tup_lt {l b : Addr} {xs ys : Array Value} {e r : Nat → Bool} {Q : Value → Shared → Prop} (hl : s.heap.IsTuple l xs) (hb : s.heap.IsTuple b ys)
    (he : ∀ j (h1 : j < xs.size) (h2 : j < ys.size), EqAt A.in1 s xs[j] ys[j] (e j)) (hr : ∀ j (h1 : j < xs.size) (h2 : j < ys.size), e j = false → RcLt A.in1 s xs[j] ys[j] (r j))
    (h : Q (.bool (firstLt e r (decide (xs.size < ys.size)) (List.range (min xs.size ys.size)))) s) : wpAny (model prog w) A (call (.builtin "tuple.__lt__") [.ref l, .ref b]) Q E s := by
  obtain ⟨⟨c1, d1, t1, g1⟩, o1, k1, n1, z1⟩ := id hl
  obtain ⟨⟨c2, d2, t2, g2⟩, o2, k2, n2, z2⟩ := id hb
  simp only at k1 z1 k2 z2
  subst k1 z1 k2 z2
  exact call_meets F.slot_tuple_lt ⟨_, o1, rfl⟩ F.entry_tuple_lt (F.args_tuple_lt_2 _ _) (tuple_ltAt l b xs ys n1 n2 d1 d2 g1 g2 e r) ⟨o1, o2, he, hr, h⟩
theorem oneLt_tup {f : Bool} {xs ys : List PyData} {a b : Value} {as bs : List Addr} {Q : Bool → Shared → Prop} (ra : Reads s.heap a (.tuple xs) as) (rb : Reads s.heap b (.tuple ys) bs) (h : alike (.tuple xs) (.tuple ys) = true)
    (hu : A.units + min (PyData.tuple xs).depth (PyData.tuple ys).depth < cLine) (hq : Q (dataLt (.tuple xs) (.tuple ys)) s) : wpAny (model prog w) A (oneLt' f a b) Q E s := by
  cases f with
  | false => exact oneLt_alike (fun z => nomatch z) ra rb h (fun z => nomatch z) hu hq
  | true =>
    have hal : alikeAll xs ys = true := by simpa [alike] using h
    cases ra with
    | @tuple l o vs n _ as1 h1 h2 h3 h4 =>
      cases rb with
      | @tuple l' o' vs' n' _ bs1 k1 k2 k3 k4 =>
        have m1 : vs.size = xs.length := by simpa using ReadsAll.length _ _ _ h4
        have m2 : vs'.size = ys.length := by simpa using ReadsAll.length _ _ _ k4
        rw [dataLt_tuple, ← firstLt_toks xs ys hal, ← m1, ← m2] at hq
        rw [oneLt'_eq]
        simp only [if_true]
        refine wpAny_bind (wpAny_cRoomFor (room_here hu) ?_)
        refine wpAny_bind (wpAny_callSpecialIfBound?_slot (T := "tuple") ⟨_, h1, h2⟩ F.slot_tuple_lt (call_tup_lt (e := pairEq xs ys) (r := fun j => dataLt (xs.getD j .none) (ys.getD j .none)) ⟨_, h1, h2, _, h3⟩ ⟨_, k1, k2, _, k3⟩ (fun j j1 j2 => ?_) (fun j j1 j2 hj => ?_) ?_))
        · have q := eqAt_alikeAll xs ys A.in1 s vs.toList vs'.toList _ _ h4 k4 hal (room_in hu) j (by simpa using j1) (by simpa using j2)
          simpa using q
        · have q := rcLt_alikeAll xs ys A.in1 s vs.toList vs'.toList _ _ h4 k4 hal (room_in hu) j (by simpa using j1) (by simpa using j2) hj
          simpa using q
        · exact wpAny_truthy_bool hq
/-- the first items of tuples -/
theorem tup_firsts : ∀ {vs : List Value} {ds : List PyData}, EachIs (fun v d => ∃ as, Reads s.heap v d as) vs ds → (∀ d ∈ ds, ∃ xs, d = .tuple xs) →
    ∃ fs : List (Option Value), fs.length = vs.length ∧ (∀ (i : Nat) (d : PyData), ds[i]? = some d → ∃ f, fs[i]? = some f ∧ (f.isSome = true ↔ d ≠ .tuple [])) ∧
      ∀ {E : Value → Shared → Prop} {Q : List (Option Value) → Shared → Prop}, Q fs s → wpAny (model prog w) A (vs.mapM firstOfTuple') Q E s
  | _, _, .nil, _ => ⟨[], rfl, fun i d h => by simp at h, fun hq => by rw [List.mapM_nil]; exact wpAny_pure hq⟩
  | _, _, .cons (b := d) ⟨as, r⟩ t, ht => by
    obtain ⟨fs, h1, h2, h3⟩ := tup_firsts t fun d hd => ht d (List.mem_cons_of_mem _ hd)
    obtain ⟨xs, rfl⟩ := ht d List.mem_cons_self
    cases r with
    | @tuple a o its n _ _ ho hc hd hr =>
      refine ⟨its[0]? :: fs, by rw [List.length_cons, List.length_cons, h1], fun i d hi => ?_, fun {E Q} hq => ?_⟩
      · cases i with
        | zero =>
          have e : PyData.tuple xs = d := Option.some.inj hi
          subst e
          refine ⟨_, rfl, ?_⟩
          have hl := SeqAt.ReadsAll.length _ _ _ hr
          have hl2 : its.size = xs.length := by simpa using hl
          cases xs with
          | nil =>
            have z : its[0]? = none := Array.getElem?_eq_none (by rw [hl2]; exact Nat.le_refl _)
            rw [z]
            simp
          | cons x xs =>
            have z : 0 < its.size := by rw [hl2]; exact Nat.succ_pos _
            rw [Array.getElem?_eq_getElem z]
            simp
        | succ i =>
          obtain ⟨f, e1, e2⟩ := h2 i d (by simpa using hi)
          exact ⟨f, by simpa using e1, e2⟩
      · rw [List.mapM_cons]
        refine wpAny_bind ?_
        rw [kas_first_eq]
        refine wpAny_bind (Looks.here (show Looks (model prog w) s.heap (typeOf (.ref a)) o.cls from (Looks.ld ho).andThen .now) ?_)
        rw [hc, if_neg (by first | decide | simp)]
        refine wpAny_bind (listItems_at ho hd (wpAny_pure ?_))
        exact wpAny_bind (h3 (Q := fun bs s' => wpAny (model prog w) A (pure (its[0]? :: bs)) Q E s') (wpAny_pure hq))
/-- values that read as tuples of alike data can be sorted -/
theorem sortsAt_tup {vs : List Value} {ds : List PyData} (e : EachIs (fun v d => ∃ as, Reads s.heap v d as) vs ds) (hal : AllAlike ds) (ht : ∀ d ∈ ds, ∃ xs, d = .tuple xs) (hu : ∀ d, d ∈ ds → A.units + d.depth < cLine) : SortsAt prog w A s (dataKind s.heap ds) vs := by
  by_cases hne : ∀ d ∈ ds, d ≠ .tuple []
  · refine SortsAt.data e hal (.inl fun d hd => ?_) hu
    obtain ⟨xs, rfl⟩ := ht d hd
    cases xs with
    | nil => exact absurd rfl (hne _ hd)
    | cons x r => exact ⟨x, r, rfl⟩
  · have lt : ∀ f, H.LtAt prog w A s (dataKind s.heap ds) (cond f oneType' general') := fun f => by
      intro E x y a b Q ha hb hq
      obtain ⟨d, as, hd, ra, rfl⟩ := dataKind_inv ha
      obtain ⟨d', as', hd', rb, rfl⟩ := dataKind_inv hb
      obtain ⟨xs, rfl⟩ := ht d hd
      obtain ⟨ys, rfl⟩ := ht d' hd'
      have room : A.units + min (PyData.tuple xs).depth (PyData.tuple ys).depth < cLine := Nat.lt_of_le_of_lt (Nat.add_le_add_left (Nat.min_le_left _ _) _) (hu _ hd)
      have eq : keyLt' (cond f oneType' general') x y = oneLt' f x y := by cases f <;> rfl
      rw [eq]
      exact oneLt_tup ra rb (hal _ hd _ hd') room hq
    obtain ⟨fs, f1, f2, f3⟩ := tup_firsts (prog := prog) (w := w) (A := A) e ht
    have hlen := e.length
    refine ⟨fun v hv => ?_, ?_⟩
    · obtain ⟨d, hd, as, r⟩ := e.left v hv
      exact ⟨_, dataKind_some hal hd r⟩
    · -- not all of them have a first item
      have hno : fs.toArray.all (·.isSome) = false := by
        rw [List.all_toArray, Bool.eq_false_iff]
        intro z
        refine hne fun d hd => ?_
        obtain ⟨i, hi⟩ := List.mem_iff_getElem?.mp hd
        obtain ⟨f, g1, g2⟩ := f2 i d hi
        exact g2.mp (List.all_eq_true.mp z f (List.mem_of_getElem? g1))
      refine ⟨cond (!(fs.toArray[0]?.bind id).isSome) oneType' general', lt _, fun h2 E Q hq => ?_⟩
      rw [keyKind'_eq, List.mapM_toArray, map_eq_pure_bind]
      refine wpAny_bind (wpAny_bind (f3 (wpAny_pure ?_)))
      rw [if_neg (by rw [hno]; exact Bool.false_ne_true)]
      cases hf : (fs.toArray[0]?.bind id).isSome with
      | true =>
        rw [if_pos rfl]
        rw [hf] at hq
        exact wpAny_pure hq
      | false =>
        rw [if_neg Bool.false_ne_true]
        rw [hf] at hq
        rw [oneTypeOnly'_eq, List.mapM_toArray, map_eq_pure_bind]
        refine wpAny_bind (wpAny_bind (wpAny_bind (kas_mapM (r := Value.type "tuple") _ (fun v hv Q' hq' => ?_) (wpAny_pure ?_))))
        · obtain ⟨d, hd, as, r⟩ := e.left v hv
          obtain ⟨xs, rfl⟩ := ht d hd
          exact (looks_reads (M := model prog w) r).here hq'
        · have hall : ((List.map (fun _ => Value.type "tuple") vs).toArray.all fun x => x == Value.type "tuple") = true := by
            simp only [List.all_toArray, List.all_map, List.all_eq_true]
            intro _ _
            rfl
          have h0 : (List.map (fun _ => Value.type "tuple") vs).toArray[0]? = some (Value.type "tuple") := by
            match vs, h2 with
            | v :: r, _ => simp
          rw [h0]
          simp only [hall, if_true]
          exact wpAny_pure (wpAny_pure hq)
end
end Cw

set_option Elab.async false
set_option linter.all false
set_option maxRecDepth 100000
set_option maxHeartbeats 2000000
/-! sorted(xs, key=f), f a def of the program. -/
namespace Cw
open PySem PySem.Spec PyProof.Rows L2 Evl

theorem paired_each {α β : Type} {F : α → β → Prop} : ∀ {xs : List α} {ys : List β}, Paired F xs ys → PySem.W.EachIs F xs ys
  | _, _, .nil => .nil
  | _, _, .cons r t => .cons r (paired_each t)
theorem each_map {α β γ : Type} {F : α → γ → Prop} {f : β → γ} : ∀ {xs : List α} {ys : List β}, PySem.W.EachIs (fun a b => F a (f b)) xs ys → PySem.W.EachIs F xs (ys.map f)
  | _, _, .nil => .nil
  | _, _, .cons r t => .cons r (each_map t)
theorem vals_each {α : Type} {F : V → α → Prop} : ∀ {us : List Value} {bs : List α}, PySem.W.EachIs (fun u b => ∃ x, RelV x u ∧ F x b) us bs → ∃ ys : List V, Vals ys us ∧ Paired F ys bs
  | _, _, .nil => ⟨[], .nil, .nil⟩
  | _, _, .cons ⟨x, r, f⟩ t => by
    obtain ⟨ys, h1, h2⟩ := vals_each t
    exact ⟨x :: ys, .cons r h1, .cons f h2⟩
theorem each_vals {α : Type} {F : V → α → Prop} : ∀ {ys : List V} {us : List Value} {bs : List α}, Vals ys us → Paired F ys bs → PySem.W.EachIs (fun u b => ∃ x, RelV x u ∧ F x b) us bs
  | _, _, _, .nil, .nil => .nil
  | _, _, _, .cons r t, .cons f g => .cons ⟨_, r, f⟩ (each_vals t g)

section
variable {X : Cx} {k : Nat} {f : Addr} {fd : FuncData} {q : Str} {sp : Sp} {β : Type} {bs : List β} {P0 : V → β → Prop} {kd : β → PyData} {KP : β → Hp → V → Prop}
/-- what is asked of the key -/
structure KeyOk (K : PySem.W.Frag) (sp : Sp) (H : Hp) (bs : List β) (P0 : V → β → Prop) (kd : β → PyData) (KP : β → Hp → V → Prop) : Prop where
  mo : ∀ b, Mo (KP b)
  dp : ∀ b H v, KP b H v → Dp K H v (kd b)
  like : ∀ b c, PySem.W.alike (kd b) (kd c) = true
  tup : ∀ b, ∃ ys, kd b = .tuple ys
  deep : ∀ b, (kd b).depth ≤ 8
  turn : ∀ x b, P0 x b → b ∈ bs → SpP sp [x] H (KP b)
/-- one key -/
theorem key_call {pins : List (Addr × Obj)} {σ : L2.St} {H H1 : Hp} {s : Shared} {x : V} {u : Value} {b : β} (F : FnOk X.prog X.w X.K X.mg X.base CX0 k f fd [q] sp) (hr : Room (k + 2) X.A) (hb : Binds X.K fd [q] [])
    (KO : KeyOk X.K sp H bs P0 kd KP) (I : Inv X pins σ H1 s) (e : Ex H H1) (rx : RelV x u) (p0 : P0 x b) (hm : b ∈ bs) :
    wpAny (model X.prog X.w) X.A.in1.in1 (call (.ref f) [u]) (EP X pins σ (fun v H2 => Ex H1 H2 ∧ KP b H2 v)) (fun _ _ => False) s := by
  have h := KO.turn x b p0 hm H1 e (fun v H2 => Ex H1 H2 ∧ KP b H2 v) (fun v H2 e2 kp => ⟨e2, kp⟩) E0
  refine wpAny_call (codeAny_mono (F.run X.A.in1.in1 X.stack s H1 ⟨[u], []⟩ [u] [x] _ E0 hr.in1.in1 I.env0.in1.in1 (hb s [u] I.kIn rfl) (.cons rx .nil) h) fun r s2 hq => ?_)
  cases r with
  | error e => exact False.elim hq
  | ok fl =>
    cases fl with
    | ret u2 => exact I.after hq
    | next => exact False.elim hq
    | brk => exact False.elim hq
    | cont => exact False.elim hq
/-- the keys, the sort -/
theorem sort_rest {pins : List (Addr × Obj)} {σ : L2.St} {H : Hp} {s : Shared} {Q : VK} {E' : Value → Shared → Prop} {kS D : Addr} {e1 : Nat} {its : List Value} {xs : List V} (F : FnOk X.prog X.w X.K X.mg X.base CX0 k f fd [q] sp) (hr : Room (k + 2) X.A) (hb : Binds X.K fd [q] [])
    (KO : KeyOk X.K sp H bs P0 kd KP) (I : Inv X pins σ H s) (nk : s.heap.get? kS = some (seqObj "list" #[] 0)) (na : s.heap.get? D = some (seqObj "list" #[] e1)) (hne : kS ≠ D) (fk : FpOk X pins H kS) (fD : FpOk X pins H D)
    (ri : Vals xs its) (hp : Paired P0 xs bs) (hz : xs.length ≤ sizeLine)
    (fin : ∀ p ys H', Ex H H' → H p = none → H' p = some (.lst ys) → Paired P0 ys (bs.mergeSort (PySem.W.dataLe false kd)) → Q (.ref p) H') :
    wpAny (model X.prog X.w) X.A.in1.in1 (ksk_rest D (.ref f) false its.toArray e1 (.ref kS)) (fun g s' => g = .done (.ret .none) ∧ EP X pins σ Q (.ref D) s') E' s := by
  have hil : xs.length = its.length := ri.length
  have hbl : xs.length = bs.length := Paired.length hp
  unfold ksk_rest
  refine wpAny_bind (wpAny_rule ?_)
  rw [List.forIn_toArray]
  refine wpAny_bind (ksk_fold (fun i s' => ∃ H' ks kA e, Inv X pins σ H' s' ∧ Ex H H' ∧ s'.heap.get? kS = some (seqObj "list" kA e) ∧ s'.heap.get? D = some (seqObj "list" #[] e1) ∧ H' kS = none ∧ H' D = none ∧ Vals ks kA.toList ∧ Paired (fun v b => KP b H' v) ks (bs.take i)) its 0 s
    ⟨H, [], #[], 0, I, Ex.refl H, nk, na, fk.1, fD.1, .nil, by rw [List.take_zero]; exact .nil⟩ ?step ?done)
  case step =>
    rintro j u s' hu ⟨H1, ks, kA, e, I1, ex1, nk1, na1, hk1, hD1, rk, pk⟩
    simp only [Nat.zero_add] at pk ⊢
    have hj : j < its.length := (List.getElem?_eq_some_iff.mp hu).1
    obtain ⟨x, hx⟩ : ∃ x, xs[j]? = some x := ⟨_, List.getElem?_eq_getElem (by omega)⟩
    obtain ⟨u', hu', rx⟩ := ri.get hx
    obtain rfl : u' = u := Option.some.inj (hu'.symm.trans hu)
    obtain ⟨b, hb', p0⟩ := paired_get hp hx
    have hkl : kA.size ≤ j := by
      have l1 : ks.length = kA.size := rk.length.trans (Array.length_toList ..)
      rw [← l1, Paired.length pk, List.length_take]
      exact Nat.min_le_left _ _
    have I2 : Inv X (pins ++ [(kS, seqObj "list" kA e), (D, seqObj "list" #[] e1)]) σ H1 s' := I1.pins_of fun p hp' => by
      rcases List.mem_append.mp hp' with z | z
      · exact I1.pin p (List.mem_append_right _ z)
      · rcases List.mem_cons.mp z with rfl | z
        · exact ⟨nk1, hk1, fk.2.1, fk.2.2.1, fun v z => nomatch z⟩
        · rw [List.mem_singleton.mp z]
          exact ⟨na1, hD1, fD.2.1, fD.2.2.1, fun v z => nomatch z⟩
    refine wpAny_bind (wpAny_attempt (wpAny_mono (key_call F hr hb KO I2 ex1 rx p0 (List.mem_of_getElem? hb')) (fun v s2 he => ?_) fun _ _ z => z.elim))
    obtain ⟨vv, H2, I3, rv, ex2, kp⟩ := he
    try dsimp only
    have pk2 := I3.pin (kS, seqObj "list" kA e) (List.mem_append_right _ (List.mem_append_right _ List.mem_cons_self))
    have pD2 := I3.pin (D, seqObj "list" #[] e1) (List.mem_append_right _ (List.mem_append_right _ (List.mem_cons_of_mem _ List.mem_cons_self)))
    have nk2 : s2.heap.get? kS = some (seqObj "list" kA e) := pk2.1
    have sb := Heap.SameBut.update s2.heap kS (Obj.mapSeq (·.push v))
    obtain ⟨c2, hc2⟩ : ∃ c2, (s2.heap.update kS (Obj.mapSeq (·.push v))).get? kS = some (seqObj "list" (kA.push v) c2) := ⟨_, get?_update_seq nk2 (·.push v)⟩
    have I4 : Inv X pins σ H2 s2 := I3.pins_of fun p z => I3.pin p (List.mem_append_right _ (List.mem_append_left _ z))
    have I5 : Inv X pins σ H2 { s2 with heap := s2.heap.update kS (Obj.mapSeq (·.push v)), toks := s2.toks } := I4.turned (fun b o hb e => (sb.2 b hb).trans e) pk2.2.1 fk.2.1 fk.2.2.2.1 fk.2.2.2.2.1 fk.2.2.2.2.2
    refine wpAny_bind (listUpdate_at nk2 rfl ?_ (by omega) (by show (kA.push v).size ≤ _; rw [Array.size_push]; omega))
    have ea : (kA.push v).toList = kA.toList ++ [v] := by simp
    have et : bs.take (j + 1) = bs.take j ++ [b] := by rw [List.take_add_one, hb']; rfl
    refine wpAny_pure ⟨rfl, H2, ks ++ [vv], kA.push v, c2, I5, ex1.trans ex2, hc2, (sb.2 D (Ne.symm hne)).trans pD2.1, pk2.2.1, pD2.2.1, ?_, ?_⟩
    · rw [ea]
      exact rk.append (.cons rv .nil)
    · rw [et]
      have pk3 : Paired (fun v b => KP b H2 v) ks (bs.take j) := paired_imp (fun v b z => KO.mo b H1 H2 v ex2 z) pk
      exact paired_snoc (F := fun v b => KP b H2 v) (a := vv) (b := b) kp pk3
  case done =>
    rintro s' ⟨H1, ks, kA, e, I1, ex1, nk1, na1, hk1, hD1, rk, pk⟩
    have et : bs.take (0 + its.length) = bs := List.take_of_length_le (by omega)
    rw [et] at pk
    have hkl : kA.size = its.length := by
      have l1 : ks.length = kA.size := rk.length.trans (Array.length_toList ..)
      rw [← l1, Paired.length pk, ← hbl, hil]
    have hR : PySem.W.EachIs (fun v d => ∃ as, Reads s'.heap v d as) kA.toList (bs.map kd) := by
      refine each_map (PySem.W.EachIs.mono (fun u b ⟨x, rx, kp⟩ => ?_) (each_vals rk pk))
      exact Dp.reads I1 (kd b) x u (KO.dp b H1 x kp) rx
    have hal : PySem.W.AllAlike (bs.map kd) := PySem.W.AllAlike.of KO.like
    try dsimp only
    refine wpAny_bind (listItems_at nk1 rfl ?_)
    have hu := hr.units
    have S : PySem.W.SortsAt X.prog X.w X.A.in1.in1 s' (PySem.W.dataKind s'.heap (bs.map kd)) kA.toList := sortsAt_tup hR hal (fun d hd => by
        obtain ⟨b, _, rfl⟩ := List.mem_map.mp hd
        exact KO.tup b) (fun d hd => by
        obtain ⟨b, _, rfl⟩ := List.mem_map.mp hd
        have h8 := KO.deep b
        show X.A.units + 1 + 1 + (kd b).depth < cLine
        omega)
    refine PySem.W.keyH_end (h₁ := PySem.W.hideAll s'.heap [kS]) (fun b o _ z => PySem.W.of_hideAll _ z) (PySem.W.hideAll_none _ List.mem_cons_self) nk1 na1 hne S hkl (by omega) fun h3 tk3 c k3 n3 => ⟨rfl, ?_⟩
    have ko : PySem.W.KeyedOut false (bs.map kd) its (PySem.W.sortVals (PySem.W.dataKind s'.heap (bs.map kd)) false kA.toList its) := ⟨s'.heap, kA.toList, hal, rfl, hR⟩
    have out := PySem.W.keyedOut_each kd ko (each_vals ri hp)
    obtain ⟨ys, ry, py⟩ := vals_each out
    have hyl : ys.length ≤ sizeLine := by
      have l1 := Paired.length py
      rw [List.length_mergeSort] at l1
      omega
    have kept : ∀ b o, b ≠ kS → b ≠ D → s'.heap.get? b = some o → h3.get? b = some o := fun b o z1 z2 z3 => k3 b o z2 (PySem.W.hideAll_get _ z3 fun z4 => z1 (List.mem_singleton.mp z4))
    have nmem : ∀ b, b ∉ [kS, D] → b ≠ kS ∧ b ≠ D := fun b hb => ⟨fun z => hb (by rw [z]; exact List.mem_cons_self), fun z => hb (by rw [z]; exact List.mem_cons_of_mem _ List.mem_cons_self)⟩
    have nD : ∀ b o, H1 b = some o → b ≠ D := fun b o z => ne_of_none z hD1
    have nS : ∀ b o, H1 b = some o → b ≠ kS := fun b o z => ne_of_none z hk1
    have I4 : Inv X pins σ (upd H1 D (.lst ys)) { s' with heap := h3, gens := s'.gens, drawn := s'.drawn, toks := tk3 } := by
      refine I1.step (ch := [kS, D]) (fun b hb => ?_) (fun b o _ _ hb z _ => kept b o (nmem b hb).1 (nmem b hb).2 z) (fun b o _ _ hb z _ => ⟨o.slots, kept b o (nmem b hb).1 (nmem b hb).2 z⟩) (fun b o hb _ n => ?_) (fun b o hb z => ⟨o, kept b o (nmem b hb).1 (nmem b hb).2 z⟩)
        (fun b xs z => ?_) (fun b o u z => ?_) (fun b ps z => ?_) (fun m hm => ?_) (fun b u z => ?_) I1.bare
      · rcases List.mem_cons.mp hb with rfl | hb
        · exact ⟨fk.2.2.2.1, fk.2.1, fk.2.2.2.2.1, fk.2.2.2.2.2⟩
        · rw [List.mem_singleton.mp hb]
          exact ⟨fD.2.2.2.1, fD.2.1, fD.2.2.2.2.1, fD.2.2.2.2.2⟩
      · rw [upd_ne (nmem b hb).2]
        exact n
      · rw [upd_ne (nD b _ z)]
        exact z
      · rw [upd_ne (nD b _ z)]
        exact z
      · refine ⟨#[], ?_⟩
        rw [upd_ne (nD b _ z), z]
        simp
      · obtain ⟨o, es, ep, ho, r⟩ := hm
        exact ⟨o, es, ep, kept _ o (Ne.symm fk.2.1) (Ne.symm fD.2.1) ho, r⟩
      · by_cases hb : b = D
        · subst hb
          rw [upd_same] at z
          cases z
          exact ⟨hyl, _, c, ry, n3⟩
        · rw [upd_ne hb] at z
          refine (I1.hok b u z).stay (fun c v hc r => ?_) (fun c r => ?_) fun c xs r => ?_
          · rcases hc with rfl | hc
            · exact kept _ _ (nS _ _ z) hb r
            · exact kept _ _ (nS _ _ hc) (nD _ _ hc) r
          · rw [upd_ne (nD c _ r)]
            exact r
          · rw [upd_ne (nD c _ r)]
            exact r
    exact ⟨.ref D, upd H1 D (.lst ys), I4, rfl, fin D ys _ (ex1.trans (Ex.new hD1)) fD.1 upd_same py⟩
def rSortF (K : PySem.W.Frag) (f : Addr) (sp : Sp) : List V → List V → Hp → VK → Prop := fun vs zs H Q => ∃ (a : Addr) (xs : List V) (β : Type) (bs : List β) (P0 : V → β → Prop) (kd : β → PyData) (KP : β → Hp → V → Prop),
  vs = [.ref a] ∧ zs = [.ref f] ∧ SqL K H a xs ∧ Paired P0 xs bs ∧ KeyOk K sp H bs P0 kd KP ∧
  ∀ p ys H', Ex H H' → H p = none → H' p = some (.lst ys) → Paired P0 ys (bs.mergeSort (PySem.W.dataLe false kd)) → Q (.ref p) H'
/-- a list just copied, sorted -/
theorem sort_copy {pins : List (Addr × Obj)} {σ : L2.St} {H : Hp} {s : Shared} {Q : VK} {E' : Value → Shared → Prop} {D : Addr} {g : Heap} {tk : Nat} {its : List Value} {xs : List V} (F : FnOk X.prog X.w X.K X.mg X.base CX0 k f fd [q] sp) (hr : Room (k + 2) X.A) (hb : Binds X.K fd [q] [])
    (KO : KeyOk X.K sp H bs P0 kd KP) (I : Inv X pins σ H s) (hD : g.get? D = some (seqObj "list" its.toArray 0)) (hs : s.heap.objs.size ≤ D) (kg : ∀ b o, s.heap.get? b = some o → g.get? b = some o)
    (ri : Vals xs its) (hp : Paired P0 xs bs) (hz : xs.length ≤ sizeLine)
    (fin : ∀ p ys H', Ex H H' → H p = none → H' p = some (.lst ys) → Paired P0 ys (bs.mergeSort (PySem.W.dataLe false kd)) → Q (.ref p) H') :
    wpAny (model X.prog X.w) X.A.in1.in1 (Builtin.«list.sort» ⟨[.ref D], [(Str.ofString "key", .ref f)]⟩) (fun r s' => r = .done (.ret .none) ∧ EP X pins σ Q (.ref D) s') E' { s with heap := g, toks := tk } := by
  have hil : xs.length = its.length := ri.length
  have hDg : D < g.objs.size := Heap.lt_size hD
  obtain ⟨e1, ho1⟩ : ∃ e1, (g.update D (Obj.mapSeq fun _ => (#[] : Array Value))).get? D = some (seqObj "list" #[] e1) := ⟨_, get?_update_seq hD fun _ => #[]⟩
  rw [ksk_t1]
  unfold ksk_tree
  refine wpAny_bind (listItems_at hD rfl ?_)
  refine wpAny_bind (listUpdate_at hD rfl ?_ (by rw [List.size_toArray]; omega) (Nat.zero_le _))
  refine wpAny_bind (seqEpoch_at ho1 rfl ?_)
  refine wpAny_bind (wpAny_newTuple ?_ (by show its.length ≤ _; omega))
  refine wpAny_bind (wpAny_newList ?_ (Nat.zero_le _))
  refine wpAny_holding ?_
  have sz1 : ((g.update D (Obj.mapSeq fun _ => (#[] : Array Value))).push (seqObj "tuple" its.toArray 0)).objs.size = g.objs.size + 1 := by rw [size_push', Heap.size_update]
  have old : ∀ b o, s.heap.get? b = some o → (PySem.W.sortingHeap g D its).get? b = some o := fun b o z => PySem.W.sortingHeap_old (Nat.ne_of_lt (Nat.lt_of_lt_of_le (Heap.lt_size z) hs)) (kg b o z)
  have I1 : Inv X pins σ H { s with heap := PySem.W.sortingHeap g D its, toks := tk } := I.kept old
  have hgs : s.heap.objs.size ≤ g.objs.size := Nat.le_trans hs (Nat.le_of_lt hDg)
  exact sort_rest (kS := ((g.update D (Obj.mapSeq fun _ => (#[] : Array Value))).push (seqObj "tuple" its.toArray 0)).objs.size) F hr hb KO I1 (Heap.get?_push_size _ rfl)
    (Heap.get?_push_of_some _ (Heap.get?_push_of_some _ ho1)) (by rw [sz1]; exact Nat.ne_of_gt (Nat.lt_succ_of_lt hDg)) (I.fpOk (by rw [sz1]; exact Nat.le_succ_of_le hgs) (I.hok.fresh (by rw [sz1]; exact Nat.le_succ_of_le hgs))) (I.fpOk hs (I.hok.fresh hs)) ri hp hz fin
theorem cr_sortedF (F : FnOk X.prog X.w X.K X.mg X.base CX0 k f fd [q] sp) (hr : Room (k + 2) X.A) (hb : Binds X.K fd [q] []) : CallRK X (.builtin "sorted") [Str.ofString "key"] (rSortF X.K f sp) := by
  intro pins s σ H vs zs us ws Q I rv rz h
  obtain ⟨a, xs, β, bs, P0, kd, KP, rfl, rfl, hs, hp, KO, fin⟩ := h
  obtain rfl := Vals.ref1 rv
  obtain ⟨w1, rfl, e1⟩ := vals1 rz
  obtain rfl : w1 = Value.ref f := e1
  obtain ⟨its, ri, hl, hz⟩ := I.list hs
  have hil : xs.length = its.length := ri.length
  show wpAny _ _ (call (.builtin "sorted") [.ref a] [(Str.ofString "key", .ref f)]) _ _ _
  refine PySem.W.sorted_of_sort hl.isList (by omega) (ksk_s1 _ _) (fun _ => ksk_l1 _ _) fun E' => ?_
  exact sort_copy (tk := s.toks) F hr hb KO I (PySem.W.copyHeap_at s.heap its) (Nat.le_succ _) (fun b o z => PySem.W.copyHeap_old z) ri hp hz fin
end
end Cw

set_option Elab.async false
set_option linter.all false
set_option maxRecDepth 100000
set_option maxHeartbeats 2000000
/-! {k: v for target in iter} whose keys are tuples; such a dict sorted by a key; x in a tuple of data. -/
namespace Cw
open PySem PySem.Spec PyProof.Rows L2 Evl

section
variable {X : Cx}
/-- a tuple-keyed entry stored -/
theorem put_t {pins : List (Addr × Obj)} {σ : L2.St} {H : Hp} {s : Shared} {E : Value → Shared → Prop} {D b : Addr} {kvs : List (List Key × V)} {k : List Key} {v : V} {r : Value} {Q : Unit → Shared → Prop} (hu : X.A.units < cLine) (I : Inv X pins σ H s)
    (hD : H D = some (.dT kvs)) (hb : H b = some (.tup (k.map kV))) (hz : kvs.length < sizeLine) (rv : RelV v r) (h : ∀ s', Inv X pins σ (upd H D (.dT (putK kvs k v))) s' → Q () s') : wpAny (model X.prog X.w) X.A (dictSet D (.ref b) r) Q E s := by
  obtain ⟨z, hd, xs, rel, dd⟩ := dt_of I.hok hD
  have l1 : xs.length ≤ sizeLine := by
    rw [← Paired.length rel]
    exact z
  have l2 : (putK kvs k v).length ≤ sizeLine := Nat.le_trans (length_putK kvs k v) hz
  refine wpAny_dictSet_heap (knd := tupleKind (mixKind X.prog X.w)) (hsz := l1) (show (tupleKind (mixKind X.prog X.w)).room X.A from hu) (key_of I.hok hb) dd fun h' dd' hs => h _ ?_
  obtain ⟨o, es, ep, ho, g1, g2, g3, _, g4⟩ := dd'
  refine d_write I (by rw [hD]; exact True.intro) hs ⟨o, ho⟩ ⟨l2, hd, _, (rel.put k hb rv).keeps fun c ys ec => ?_, o, es, ep, ho, g1, g2, g3, g4⟩
  rw [upd_ne (ne_of ec hD (fun z => nomatch z))]
  exact ec
/-- D the new dict; W by the turn and a measure -/
def tDcT (wi : TI) (g : TG) (tk tv : TE) (vs : List Nat) : TE := fun σ H Q => wi σ H fun J H1 => ∀ D, H1 D = none → ∃ W : Nat → Nat → Hp → Prop, (∃ m, W 0 m (upd H1 D (.dT []))) ∧ ∀ i m H, W i m H →
  (J.stop i H ∧ Q (.ref D) H) ∨ (J.go i H ∧ ∃ Nx : Hp → Prop, (∀ H', Nx H' → ∃ m', m' < m ∧ W (i + 1) m' H') ∧ ∀ x H', J.yld i H x H' → g x (wipe σ vs) H' fun σ2 H2 => wipe σ2 vs = wipe σ vs ∧
    tk σ2 H2 fun y H4 => tv σ2 H4 fun z H5 => ∃ kvs k b, y = .ref b ∧ H5 b = some (.tup (k.map kV)) ∧ H5 D = some (.dT kvs) ∧ kvs.length < sizeLine ∧ Nx (upd H5 D (.dT (putK kvs k z))))
theorem dcT_core {pins : List (Addr × Obj)} {s : Shared} {σ : L2.St} {H : Hp} {Q : VK} {kx vx tg iter : Expr} {scope : Scope} {own : List (Str × Nat)} {pos pos' : Pos} {wi : TI} {g : TG} {tk tv : TE} {use : Option (Value → Sem Unit)} {Qf : Value → Shared → Prop}
    (hu : X.A.units < cLine) (hc : X.calm = true) (hN : X.N.Nodup) (I : Inv X pins σ H s) (hi : PI X tg iter wi) (ok : BlkOk X.N X.env.scope scope own)
    (hg : ∀ (s : Shared) (H : Hp) (C : Addr) (cl : List (Str × Addr)) (fp : List Addr), PG (X.blk s H scope (compEnvC scope cl C X.env) fp) tg g)
    (hk : ∀ (s : Shared) (H : Hp) (C : Addr) (cl : List (Str × Addr)) (fp : List Addr), PE (X.blk s H scope (compEnvC scope cl C X.env) fp) kx tk)
    (he : ∀ (s : Shared) (H : Hp) (C : Addr) (cl : List (Str × Addr)) (fp : List Addr), PE (X.blk s H scope (compEnvC scope cl C X.env) fp) vx tv) (hs : ∀ x, foldedSetIterable iter X.env x = pure x)
    (h : tDcT wi g tk tv (own.map (·.2)) σ H Q)
    (hRR : ∀ D C s' m H', Inv X pins σ H' s' → Q (.ref D) H' → s'.heap.Ns C m → FpOk X pins H' C → compPost (model X.prog X.w) X.A X.xe use Qf (.ref D) C (.ok .next) s') :
    wpAny (model X.prog X.w) X.A (comprehension (.DictComp kx vx [⟨tg, iter, [], 0⟩] scope pos) scope X.env pos' newDict false (eval iter X.env) use) Qf X.xe s := by
  have hfree : ∀ y ∈ scope.names, y.2 = .free → ∃ c, X.env.cells.lookup y.1 = some c := fun y hy e => I.ok.has _ (ok.free y hy e)
  refine wpAny_comprehension_free (use := use) rfl hs (closure_ok hfree) ok.kind (fun y hy e => (ok.uniq y hy).trans (congrArg some e)) (thn (hi.run pins s σ H _ I h) fun xv sa ha => thn ha fun itv sb hb => ?_)
  obtain ⟨it, fp, tn, J, HB, rfl, IB, T, stB, fB, q⟩ := hb
  refine wpAny_newObj_type (newEnv_comp ?_)
  -- the new dict
  obtain ⟨D, hD⟩ : ∃ D, D = sb.heap.objs.size := ⟨_, rfl⟩
  obtain ⟨sc, hsc⟩ : ∃ sc : Shared, sc = { sb with heap := sb.heap.push { cls := .type "dict", data := .dict #[] } } := ⟨_, rfl⟩
  have hch : sc.heap = sb.heap.push { cls := .type "dict", data := .dict #[] } := by rw [hsc]
  obtain ⟨HC, hHC⟩ : ∃ HC, HC = upd HB D (.dT []) := ⟨_, rfl⟩
  have IC : Inv X pins σ HC sc := by
    rw [hsc, hHC, hD]
    exact IB.laid (t' := sb.toks) (fun b o e => Heap.get?_push_of_some _ e) (Nat.le_refl _) (dt_empty sb.heap IB.big)
  obtain ⟨W, ⟨m0, w0⟩, turn⟩ := q D (by rw [hD]; exact IB.hok.fresh (Nat.le_refl _))
  rw [← hHC] at w0
  have small : ∀ b ∈ fp, b < sb.heap.objs.size := fun b hb => let ⟨_, e, _⟩ := T.obj _ _ stB b hb; Heap.lt_size e
  have fC : ∀ b ∈ fp, FpOk X pins HC b ∧ b < sc.heap.objs.size := fun b hb => by
    refine ⟨⟨?_, (fB b hb).2⟩, by rw [hch, Heap.size_push]; exact Nat.lt_succ_of_lt (small b hb)⟩
    rw [hHC, upd_ne (by rw [hD]; exact Nat.ne_of_lt (small b hb))]
    exact (fB b hb).1
  have start := block_start IC ok hN fC
  obtain ⟨ce, hce⟩ : ∃ ce, ce = compEnvC scope (cellsFrom (sc.heap.objs.size + 1) scope.names (cloFrom X.env.cells scope.names [])) sc.heap.objs.size X.env := ⟨_, rfl⟩
  obtain ⟨sd, hsd⟩ : ∃ sd : Shared, sd = { sc with heap := pushCells (sc.heap.push { cls := .type "dict", data := .dict #[] }) scope.names } := ⟨_, rfl⟩
  rw [← hce, ← hsd] at start
  have up : ∀ b o, sb.heap.get? b = some o → sd.heap.get? b = some o := fun b o e => by
    rw [hsd]
    refine pushCells_keeps _ _ _ _ (Heap.get?_push_of_some _ ?_)
    rw [hch]
    exact Heap.get?_push_of_some _ e
  have eL : ce.locals = sc.heap.objs.size := by rw [hce]; rfl
  have fpIn : ∀ {τ : L2.St} {G : Hp} {t : Shared}, Inv (X.blk sc HC scope ce fp) [] τ G t → (∀ b ∈ fp, G b = none) → ∀ b ∈ fp, FpOk (X.blk sc HC scope ce fp) [] G b := fun J n b hb =>
    ⟨n b hb, (J.ok.exf b hb).1, J.ok.exfs b hb, .inl hb, fun x c e => (J.ok.exf b hb).2 x c e, fun p hp => absurd (show p ∈ ([] : List (Addr × Obj)) ++ [] from hp) (by simp)⟩
  show codeAny _ _ (.compStart (.DictComp kx vx [⟨tg, iter, [], 0⟩] scope pos) 0 (.ref it) (.ref sb.heap.objs.size) _) _ _
  rw [← hD]
  show codeAny (model X.prog X.w) X.A _ (compPost (model X.prog X.w) X.A X.xe use Qf (.ref D) _) _
  have core : codeAny (model X.prog X.w) X.A (.compLoop (.DictComp kx vx [⟨tg, iter, [], 0⟩] scope pos) 0 (.ref it) (.ref D) ce) (compPost (model X.prog X.w) X.A X.xe use Qf (.ref D) sc.heap.objs.size) sd := by
    refine compLoop_anyD (fun n t => ∃ i G, Inv (X.blk sc HC scope ce fp) [] (wipe σ (own.map (·.2))) G t ∧ tn i t.heap ∧ (∀ b ∈ fp, G b = none) ∧ W i n G) ?_ m0 ⟨0, HC, start, T.keep _ _ _ stB fun b _ o e => up b o e, fun b hb => (fC b hb).1.1, w0⟩
    rintro n t ⟨i, G, J1, st1, n1, w1⟩
    rcases turn i n G w1 with ⟨stop, qq⟩ | ⟨go, Nx, hNx, step⟩
    · refine thnF (T.done (X.blk sc HC scope ce fp) rfl rfl rfl hc i [] t _ G (fun _ _ => False) J1 (fpIn J1 n1) st1 stop) fun r t2 ⟨hr, J2⟩ => ?_
      subst hr
      have back : Inv X pins σ G t2 := IC.call' (ch := fp) J2.os J2.base J2.hok J2.bare fun b hb => ⟨(fC b hb).1.2.2.2.1, (fC b hb).1.2.1, (fC b hb).1.2.2.2.2.1, (fC b hb).1.2.2.2.2.2⟩
      obtain ⟨mm, hn, _⟩ := J2.loc
      have fr : G ce.locals = none := J2.free
      have hn' : t2.heap.Ns ce.locals mm := hn
      rw [eL] at fr hn'
      exact hRR D sc.heap.objs.size t2 mm G back qq hn' (IC.fpOk (H' := G) (Nat.le_refl _) fr)
    · refine thnF (T.item (X.blk sc HC scope ce fp) rfl rfl rfl hc i [] t _ G (fun _ _ => False) J1 (fpIn J1 n1) st1 go) fun r t2 ⟨u, hr, h2⟩ => ?_
      subst hr
      refine thnF h2 fun _ t3 ⟨x, G3, J3, r3, y3, st3, n3⟩ => ?_
      have J3p := J3.pinned (fpIn J3 n3) (T.obj _ _ st3)
      have pg := hg sc HC sc.heap.objs.size (cellsFrom (sc.heap.objs.size + 1) scope.names (cloFrom X.env.cells scope.names [])) fp
      have pk := hk sc HC sc.heap.objs.size (cellsFrom (sc.heap.objs.size + 1) scope.names (cloFrom X.env.cells scope.names [])) fp
      have pv := he sc HC sc.heap.objs.size (cellsFrom (sc.heap.objs.size + 1) scope.names (cloFrom X.env.cells scope.names [])) fp
      rw [← hce] at pg pk pv
      refine thnF (pg.run _ t3 _ G3 x u _ J3p r3 (step x G3 y3)) fun _ t4 ⟨τ, G4, J4, hw, q4⟩ => ?_
      refine wpAny_tests_nil ?_
      show wpAny _ _ (eval kx ce) _ _ _
      refine thnF (pk.run _ t4 τ G4 _ J4 q4) fun z t5 ⟨yk, G5, J5, r5, q5⟩ => ?_
      refine thnF (pv.run _ t5 τ G5 _ J5 q5) fun z2 t6 ⟨yv, G6, J6, r6, kvs, k, b, ek, hb, hDD, hzz, nx⟩ => ?_
      subst ek
      obtain rfl : z = Value.ref b := r5
      refine put_t (X := X.blk sc HC scope ce fp) hu J6 hDD hb hzz r6 fun t7 J7 => ?_
      obtain ⟨m', hm, w'⟩ := hNx _ nx
      have pin : ∀ b ∈ fp, ∀ o, t3.heap.get? b = some o → t7.heap.get? b = some o ∧ (upd G6 D (.dT (putK kvs k yv))) b = none := fun b hb o e =>
        let z := J7.pin (b, o) (List.mem_append_right _ (List.mem_append_right _ (mem_pinsAt hb e)))
        ⟨z.1, z.2.1⟩
      refine ⟨m', hm, i + 1, _, (J7.unpinned (pins := [])).weak (by rw [← hw, wipe_length]) (fun j v e => ?_), T.keep _ _ _ st3 fun b hb o e => (pin b hb o e).1, fun b hb => ?_, w'⟩
      · rw [← hw] at e
        exact (wipe_some e).1
      · obtain ⟨o, e, _⟩ := T.obj _ _ st3 b hb
        exact (pin b hb o e).2
  have fin : codeAny (model X.prog X.w) X.A (.compStart (.DictComp kx vx [⟨tg, iter, [], 0⟩] scope pos) 0 (.ref it) (.ref D) ce) (compPost (model X.prog X.w) X.A X.xe use Qf (.ref D) sc.heap.objs.size) sd :=
    codeAny_compStart_dict core (T.self X.A 0 _ _ _ (T.keep _ _ _ stB fun b _ o e => up b o e) core)
  rw [hce, hsd, hsc] at fin
  rw [hD] at fin ⊢
  exact fin

/-- as a value -/
theorem pe_dcT {kx vx tg iter : Expr} {scope : Scope} {own : List (Str × Nat)} {pos : Pos} {wi : TI} {g : TG} {tk tv : TE} (hu : X.A.units < cLine) (hc : X.calm = true) (hN : X.N.Nodup) (hi : PI X tg iter wi) (ok : BlkOk X.N X.env.scope scope own)
    (hg : ∀ (s : Shared) (H : Hp) (C : Addr) (cl : List (Str × Addr)) (fp : List Addr), PG (X.blk s H scope (compEnvC scope cl C X.env) fp) tg g)
    (hk : ∀ (s : Shared) (H : Hp) (C : Addr) (cl : List (Str × Addr)) (fp : List Addr), PE (X.blk s H scope (compEnvC scope cl C X.env) fp) kx tk)
    (he : ∀ (s : Shared) (H : Hp) (C : Addr) (cl : List (Str × Addr)) (fp : List Addr), PE (X.blk s H scope (compEnvC scope cl C X.env) fp) vx tv) (hs : ∀ x, foldedSetIterable iter X.env x = pure x := by intro _; rfl) :
    PE X (.DictComp kx vx [⟨tg, iter, [], 0⟩] scope pos) (tDcT wi g tk tv (own.map (·.2))) := by
  refine ⟨fun pins s σ H Q I h => ?_⟩
  rw [arm_eval_DictComp]
  refine dcT_core hu hc hN I hi ok hg hk he hs h fun D C s' m H' J q hn f => ⟨m, hn, fun h2 sm => ?_⟩
  obtain ⟨f0, f1, f2, f3, f4, f5⟩ := f
  exact ⟨.ref D, H', J.turned (t' := s'.toks) (fun b o hb e => (sm.2 b hb).trans e) f0 f1 f3 f4 f5, rfl, q⟩
/-- name = {..} on one line, the name a local -/
theorem ps_setDcT {i : Nat} {y : Str} {py : Pos} {kx vx tg iter : Expr} {scope : Scope} {own : List (Str × Nat)} {pos spos : Pos} {wi : TI} {g : TG} {tk tv : TE} (hu : X.A.units < cLine) (hc : X.calm = true) (hN : X.N.Nodup) (hy : X.N[i]? = some y) (hyl : X.env.scope.names.lookup y = some .local)
    (hsw : swapsWith (.DictComp kx vx [⟨tg, iter, [], 0⟩] scope pos) (some (.Name y py)) spos.line X.env = pure true) (hi : PI X tg iter wi) (ok : BlkOk X.N X.env.scope scope own)
    (hg : ∀ (s : Shared) (H : Hp) (C : Addr) (cl : List (Str × Addr)) (fp : List Addr), PG (X.blk s H scope (compEnvC scope cl C X.env) fp) tg g)
    (hk : ∀ (s : Shared) (H : Hp) (C : Addr) (cl : List (Str × Addr)) (fp : List Addr), PE (X.blk s H scope (compEnvC scope cl C X.env) fp) kx tk)
    (he : ∀ (s : Shared) (H : Hp) (C : Addr) (cl : List (Str × Addr)) (fp : List Addr), PE (X.blk s H scope (compEnvC scope cl C X.env) fp) vx tv) (hs : ∀ x, foldedSetIterable iter X.env x = pure x := by intro _; rfl) :
    PS X (.Assign [.Name y py] (.DictComp kx vx [⟨tg, iter, [], 0⟩] scope pos) spos) (tAsg (tDcT wi g tk tv (own.map (·.2))) (gName i)) := by
  refine ⟨fun pins s σ H D I h => ?_⟩
  rw [exec_Assign_Name_used _ _ _ _ hsw]
  refine wpAny_bind (wpAny_standAt (wpAny_bind ?_))
  show wpAny _ X.A (do let _ ← comprehension (.DictComp kx vx [⟨tg, iter, [], 0⟩] scope pos) scope X.env (firstIterPos [⟨tg, iter, [], 0⟩] pos) newDict false (eval iter X.env) (some (assign (.Name y py) X.env))) _ _ s
  have h2 : tDcT wi g tk tv (own.map (·.2)) σ H (fun x H1 => gName i x σ H1 D.nx) := h
  refine wpAny_bind (thn (dcT_core (Qf := fun _ s' => SP X pins D .next s') hu hc hN I hi ok hg hk he hs h2 fun L C s' m H' J q hn f => ?_) fun _ s' hq => wpAny_pure (wpAny_pure hq))
  show wpAny _ _ (assign (.Name y py) X.env (.ref L)) _ _ _
  refine wpAny_assign_Name (store_ok2 (v := V.ref L) J hN hy (.inl hyl) rfl (fun s2 J2 ⟨a, sm, ha⟩ => ?_) (.inr hyl))
  obtain ⟨f0, f1, f2, f3, f4, f5⟩ := f
  have ne : C ≠ a := by
    rcases ha with z | z
    · rw [z]
      exact f1
    · exact fun e => f4 y a z e.symm
  refine ⟨m, hn.sameBut sm ne, fun h3 sm3 => ?_⟩
  exact ⟨_, H', J2.turned (t' := s2.toks) (fun b o hb e => (sm3.2 b hb).trans e) f0 f1 f3 f4 f5, q⟩
theorem sw_trueD {kx vx : Expr} {gs : List Comprehension} {scope : Scope} {pos py : Pos} {y : Str} {l : Nat} {env : Env} (hk : env.scope.kind = .function) (hy : env.scope.names.lookup y = some .local) (hl : (py.line == pos.line) = true)
    (ha : (scope.names.any fun (n, k) => n == y && (k == .local || k == .cell)) = false) : swapsWith (.DictComp kx vx gs scope pos) (some (.Name y py)) l env = pure true := by
  have ky : env.kindOf y = some .local := hy
  have hb : env.blockKind = .function := by unfold Env.blockKind; rw [hk]; rfl
  unfold swapsWith
  simp only [hb, ky, ha, Expr.pos, hl]
  rfl

/-! ### x in a tuple of data -/
def rInT (K : PySem.W.Frag) (neg : Bool) : R2 := fun x y H Q => ∃ d ds, Dp K H x d ∧ Dp K H y (.tuple ds) ∧ SeqAt.shaped d = true ∧ SeqAt.shaped (.tuple ds) = true ∧ Q (.bl (cond neg (!ds.any fun z => PyData.eqv z d) (ds.any fun z => PyData.eqv z d))) H
theorem op_inT (hu : X.A.units + 65 < cLine) : OpR X (compareOp .In) (rInT X.K false) := by
  intro pins s σ H x y v u Q I rx ry h
  obtain ⟨d, ds, hd, he, sd, se, q⟩ := h
  obtain ⟨as, r1⟩ := Dp.reads I d x v hd rx
  obtain ⟨bs, r2⟩ := Dp.reads I (.tuple ds) y u he ry
  exact SeqAt.in_tuple_reads r2 r1 (SeqAt.canLay_of_shaped se) (SeqAt.canLay_of_shaped sd) (room_in_shaped sd hu) ⟨.bl _, H, I, rfl, q⟩
theorem op_notInT (hu : X.A.units + 65 < cLine) : OpR X (compareOp .NotIn) (rInT X.K true) := by
  intro pins s σ H x y v u Q I rx ry h
  obtain ⟨d, ds, hd, he, sd, se, q⟩ := h
  obtain ⟨as, r1⟩ := Dp.reads I d x v hd rx
  obtain ⟨bs, r2⟩ := Dp.reads I (.tuple ds) y u he ry
  exact SeqAt.notIn_tuple_reads r2 r1 (SeqAt.canLay_of_shaped se) (SeqAt.canLay_of_shaped sd) (room_in_shaped sd hu) ⟨.bl _, H, I, rfl, q⟩

/-! ### sorted(d, key=f), d a dict with tuple keys -/
variable {k : Nat} {f : Addr} {fd : FuncData} {q : Str} {sp : Sp}
def rSortFD (K : PySem.W.Frag) (f : Addr) (sp : Sp) : List V → List V → Hp → VK → Prop := fun vs zs H Q => ∃ (a : Addr) (kvs : List (List Key × V)) (bs : List (List Int)) (kd : List Int → PyData) (KP : List Int → Hp → V → Prop),
  vs = [.ref a] ∧ zs = [.ref f] ∧ H a = some (.dT kvs) ∧ kvs.map (·.1) = bs.map (fun c => c.map Sum.inl) ∧ KeyOk K sp H bs (TkL H) kd KP ∧
  ∀ p ys H', Ex H H' → H p = none → H' p = some (.lst ys) → Paired (TkL H) ys (bs.mergeSort (PySem.W.dataLe false kd)) → Q (.ref p) H'
theorem inl_kV (c : List Int) : (c.map (Sum.inl (β := Str))).map kV = c.map V.int := by
  rw [List.map_map]
  rfl
theorem keys_tk {H : Hp} : ∀ {kvs : List (List Key × V)} {as : List Addr} {bs : List (List Int)}, IsKeys H kvs as → kvs.map (·.1) = bs.map (fun c => c.map Sum.inl) → Paired (TkL H) (as.map V.ref) bs
  | [], _, [], h, _ => by
    cases h
    exact .nil
  | [], _, _ :: _, _, e => by cases e
  | p :: kvs, _, [], _, e => by cases e
  | p :: kvs, _, c :: bs, h, e => by
    cases h with
    | cons h1 h2 =>
      have e1 : p.1 = c.map Sum.inl := (List.cons.inj e).1
      rw [e1, inl_kV] at h1
      exact .cons ⟨_, rfl, h1⟩ (keys_tk h2 (List.cons.inj e).2)
theorem dict_refs {P : Program} {w : World} {es : Array DictEntry} {ks : List (List Key × Addr × Value)} {acc : Array Value} (he : es.toList = ks.map (entryOfKey (tupleKind (mixKind P w)))) (it : ItemsOf (fun i v => ∃ en : DictEntry, es[i]? = some en ∧ v = en.key) acc es.size) :
    acc.toList = (ks.map fun x => x.2.1).map Value.ref := by
  have hl : es.size = ks.length := by
    rw [← Array.length_toList, he, List.length_map]
  have ha : acc.toList.length = ks.length := by
    rw [Array.length_toList, it.1, hl]
  refine List.ext_getElem (by rw [ha, List.length_map, List.length_map]) fun j h1 h2 => ?_
  obtain ⟨en, g1, g2⟩ := it.2 j acc.toList[j] (by rw [← Array.getElem?_toList]; exact List.getElem?_eq_getElem h1)
  have g3 : es.toList[j]? = some en := by rw [Array.getElem?_toList]; exact g1
  rw [he, List.getElem?_map, List.getElem?_eq_getElem (by omega)] at g3
  have g4 : entryOfKey (tupleKind (mixKind P w)) ks[j] = en := Option.some.inj g3
  rw [g2, ← g4, List.getElem_map, List.getElem_map]
  rfl
theorem cr_sortedFD (hc : X.calm = true) (F : FnOk X.prog X.w X.K X.mg X.base CX0 k f fd [q] sp) (hr : Room (k + 2) X.A) (hb : Binds X.K fd [q] []) : CallRK X (.builtin "sorted") [Str.ofString "key"] (rSortFD X.K f sp) := by
  intro pins s σ H vs zs us ws Q I rv rz h
  obtain ⟨a, kvs, bs, kd, KP, rfl, rfl, hd, hk, KO, fin⟩ := h
  obtain rfl := Vals.ref1 rv
  obtain ⟨w1, rfl, e1⟩ := vals1 rz
  obtain rfl : w1 = Value.ref f := e1
  obtain ⟨z, hs, ks, pr, o, es, ep, ho, hx, hdt, he, hn⟩ := (show ObjOk X.prog X.w H s.heap a (.dT kvs) from I.hok a _ hd)
  have l2 : kvs.length = ks.length := Paired.length pr
  have hl : es.size = ks.length := by rw [← Array.length_toList, he, List.length_map]
  show wpAny _ _ (call (.builtin "sorted") [.ref a] [(Str.ofString "key", .ref f)]) _ _ _
  refine PyProof.Rows.call_function_entry_kw kind_sorted plain_sorted entry_sorted (ksk_s1 _ _) ?_
  unfold Builtin.«sorted»
  refine wpAny_bind (m := checkCount "sorted" 1 1 _) (wpAny_pure ?_)
  refine wpAny_bind (PySem.W.kdu_collect (A := X.A.in1) (kdl_raw (prog := X.prog) (w := X.w) hs hx hdt) (I.ok.hd hc) ho (by omega) fun h' tk acc kp it => ?_)
  have ea := dict_refs he it
  have pk : Paired (TkL H) ((ks.map fun x => x.2.1).map V.ref) bs := keys_tk (isKeys_of pr) hk
  have rv2 : Vals ((ks.map fun x => x.2.1).map V.ref) acc.toList := by
    rw [ea]
    exact vals_refs _
  have hlen : ((ks.map fun x => x.2.1).map V.ref).length ≤ sizeLine := by
    rw [List.length_map, List.length_map]
    omega
  have I1 : Inv X pins σ H { s with heap := h', toks := tk } := I.kept kp
  refine wpAny_bind (wpAny_newList ?_ (by rw [← rv2.length]; exact hlen))
  have hoL : (h'.push (seqObj "list" acc.toList.toArray 0)).get? h'.objs.size = some (seqObj "list" acc.toList.toArray 0) := Heap.get?_push_size _ rfl
  refine wpAny_bind (wpAny_holding (wpAny_call_entry_kw slot_list_sort ⟨_, hoL, rfl⟩ entry_list_sort ?body (ksk_l1 _ _)))
  case body =>
    show wpAny (model X.prog X.w) X.A.in1.in1 (Builtin.«list.sort» ⟨[.ref h'.objs.size], [(Str.ofString "key", .ref f)]⟩) _ _ _
    refine wpAny_mono (sort_copy (D := h'.objs.size) (g := h'.push (seqObj "list" acc.toList.toArray 0)) (tk := tk) (E' := fun _ _ => False) F hr hb KO I1 hoL (Nat.le_refl _) (fun b o e => Heap.get?_push_of_some _ e) rv2 pk hlen fin) (fun r s' hf => ?_) fun _ _ e => e.elim
    obtain ⟨rfl, hq⟩ := hf
    exact ⟨_, rfl, wpAny_pure ⟨_, rfl, hq⟩⟩
end
end Cw

set_option Elab.async false
set_option linter.all false
set_option maxRecDepth 100000
set_option maxHeartbeats 4000000
/-! set(xs) of a list of ints, repeats and all; sorted(set(xs)). -/
namespace Cw
open PySem PySem.Spec PyProof.Rows L2 Evl

/-- the set as its class makes it -/
abbrev new0 (w : World) : Obj := { cls := .type "set", dict := none, data := .set #[] 0 (.fresh 0 0 (!w.params.followText "set-order")) }
section
variable {P : Program} {w : World} {A : Around} {E : Value → Shared → Prop} {s : Shared}
/-- behind the set's own making from a list -/
def Made (w : World) (s : Shared) (ns : List Int) (s2 : Shared) : Prop :=
  ∃ h' tk c, s2 = { s with heap := h', toks := tk } ∧ SetR w h' s.heap.objs.size (fun j => decide (j ∈ ns)) c ∧ c ≤ ns.length ∧ ∀ b o, s.heap.get? b = some o → h'.get? b = some o
/-- the turns over the list -/
theorem fill_list {A0 : Around} {l : Addr} {items : Array Value} {ns : List Int} {R : Result → Shared → Prop} (hh : A0.in1.handled = none) (hl : s.heap.IsList l items) (hit : IntsAre items.toList ns) (hb : ns.length + 1 < scanBound)
    (hR : ∀ s2, Made w s ns s2 → R (.ok (.ret .none)) s2) :
    codeAny (model P w) A0 (.builtin "set.update.loop" ⟨[.ref s.heap.objs.size, .ref (s.heap.objs.size + 1)], []⟩) R
      { s with heap := (s.heap.push (new0 w)).push { cls := .type "list_iterator", data := .fields #[.ref l, .int 0 0] } } := by
  have hn : items.size = ns.length := by
    rw [← Array.length_toList]
    exact hit.length
  have hlS : l < s.heap.objs.size := by
    obtain ⟨o, ho, _⟩ := hl
    exact Heap.lt_size ho
  have sz : (s.heap.push (new0 w)).objs.size = s.heap.objs.size + 1 := Heap.size_push ..
  have e1 : l ≠ s.heap.objs.size + 1 := Nat.ne_of_lt (Nat.lt_succ_of_lt hlS)
  have e2 : s.heap.objs.size ∉ [s.heap.objs.size + 1, l] := by
    simp only [List.mem_cons, List.not_mem_nil, or_false, not_or]
    exact ⟨Nat.ne_of_lt (Nat.lt_succ_self _), Nat.ne_of_gt hlS⟩
  have hval : ∀ (i : Nat) (v : Value), items[i]? = some v → ∃ k t, ns[i]? = some k ∧ v = .int k t := fun i v hv => by
    have hi : i < ns.length := by rw [← hn]; exact (Array.getElem?_eq_some_iff.mp hv).1
    obtain ⟨t, e⟩ := IntsAre.int_at hit i v (by rw [Array.getElem?_toList]; exact hv)
    refine ⟨ns[i], t, List.getElem?_eq_getElem hi, ?_⟩
    rw [e, List.getD_eq_getElem?_getD, List.getElem?_eq_getElem hi] <;> rfl
  have hl1 : (s.heap.push (new0 w)).IsList l items := by
    obtain ⟨o, ho, r⟩ := hl
    exact ⟨o, Heap.get?_push_of_some _ ho, r⟩
  have hI : ((s.heap.push (new0 w)).push { cls := .type "list_iterator", data := .fields #[.ref l, .int 0 0] }).get? (s.heap.objs.size + 1) = some { cls := .type "list_iterator", data := .fields #[.ref l, .int 0 0] } := by
    rw [← sz]
    exact Heap.get?_push_size _ rfl
  refine set_update_ints (P := P) ((Walks.list hh (s.heap.objs.size + 1) l e1 items).toS) s.heap.objs.size e2 ns hn hb hval (items.size - 0) 0 _ rfl (Nat.zero_le _) ⟨⟨_, hI, rfl, rfl⟩, hl1.push _⟩
    ⟨0, Nat.le_refl 0, setR_new_at (Heap.get?_push_of_some _ (Heap.get?_push_size _ rfl))⟩ fun s2 c hm hc hS => ?_
  obtain ⟨h2, g2, d2, t2, o2⟩ := s2
  obtain rfl : g2 = s.gens := hm.gens
  obtain rfl : d2 = s.drawn := hm.drawn
  obtain rfl : o2 = s.os := hm.os
  refine hR _ ⟨h2, t2, c, rfl, hS, by omega, fun b o e => ?_⟩
  have hb0 : b < s.heap.objs.size := Heap.lt_size e
  exact hm.heap b o (by
    simp only [List.mem_cons, List.not_mem_nil, or_false, not_or]
    exact ⟨Nat.ne_of_lt hb0, Nat.ne_of_lt (Nat.lt_succ_of_lt hb0)⟩) (Heap.get?_push_of_some _ (Heap.get?_push_of_some _ e))
set_option maxHeartbeats 6000000 in
theorem set_of_list {l : Addr} {items : Array Value} {ns : List Int} {Q : Value → Shared → Prop} (hh : A.handled = none) (hl : s.heap.IsList l items) (hit : IntsAre items.toList ns) (hb : ns.length + 1 < scanBound)
    (h : ∀ s2, Made w s ns s2 → Q (.ref s.heap.objs.size) s2) : wpAny (model P w) A (call (.type "set") [.ref l]) Q E s := by
  obtain ⟨c, tl, hmro⟩ := F.called_set.mro
  have hmade := F.called_set.made
  have hsub := F.called_set.sub
  refine wpAny_call (codeAny_of_tree ?_)
  show wpAny _ _ (callAny (.type "set") _) _ _ _
  refine wpAny_pure ⟨Code.quiet_builtin _ (by decide +kernel), codeAny_builtin F.entry_type_call ?_⟩
  rw [Around.under_plain (weight_type_call_type "set" [.ref l] []) rfl]
  have h1 := F.called_set.notType
  have h2 := F.called_set.canCreate
  have hct := F.typeCall_set_1 (.ref l)
  repeat (any_goals (first | assumption | wp_step))
  refine codeAny_mono (code_set_led1 (.ref l) (E := E) (Q₁ := fun obj s1 => obj = .ref s.heap.objs.size ∧ s1 = { s with heap := s.heap.push (new0 w) }) ⟨rfl, rfl⟩) fun r s1 hr => ?_
  match r, hr with
  | .error e, hr => exact hr
  | .ok .next, hr => exact hr.elim
  | .ok .brk, hr => exact hr.elim
  | .ok .cont, hr => exact hr.elim
  | .ok (.ret obj), hr =>
    obtain ⟨rfl, rfl⟩ := hr
    have hS : (s.heap.push (new0 w)).get? s.heap.objs.size = some (new0 w) := Heap.get?_push_size _ rfl
    have hT : Shared.TypeIs { s with heap := s.heap.push (new0 w) } (.ref s.heap.objs.size) "set" := ⟨_, hS, rfl⟩
    have hli := F.called_set.init.lookup
    have hbi := F.called_set.init.bind (.ref s.heap.objs.size)
    repeat (any_goals (first | assumption | wp_step))
    refine codeAny_mono (codeAny_call_builtin (R := wants (fun r s2 => r = .none ∧ Made w s ns s2) E) F.called_set.init.plain F.entry_set_init (check_set_init_1 hT ?_)) fun r2 s2 hr2 => ?_
    · obtain ⟨⟨oc, od, dt, sl⟩, ho, hcl, n, hd⟩ := id hl
      simp only at hcl hd
      subst hcl hd
      have ho2 : (s.heap.push (new0 w)).get? l = some { cls := .type "list", dict := od, data := .seq items n, slots := sl } := Heap.get?_push_of_some _ ho
      have hsls := F.sub_list_set
      have hslf := F.sub_list_frozenset
      have hne : (Value.type "list" == Value.type "dict") = false := by decide
      have hl1 : (s.heap.push (new0 w)).IsList l items := ⟨_, ho2, rfl, n, rfl⟩
      unfold Builtin.«set.__init__» noKeywords Builtin.Frozenset.updateFrom
      generalize hPI : pyIter = PI
      wp_walk
      subst hPI
      refine wpAny_pyIter_list hl1 ?_
      refine wpAny_bind (wpAny_runValue ?_)
      have sz : (s.heap.push (new0 w)).objs.size = s.heap.objs.size + 1 := Heap.size_push ..
      have go := fill_list (P := P) (w := w) (s := s) (A0 := A.in1.in1) (l := l) (items := items) (ns := ns) (R := wants (fun r s2 => r = .none ∧ Made w s ns s2) E) (by simp [hh]) hl hit hb fun s2 m => ⟨rfl, m⟩
      rw [← sz] at go
      refine codeAny_mono go fun r s2 hr => ?_
      match r, hr with
      | .error e, hr => exact hr
      | .ok .next, hr => exact hr.elim
      | .ok .brk, hr => exact hr.elim
      | .ok .cont, hr => exact hr.elim
      | .ok (.ret v), hr =>
        obtain ⟨rfl, m⟩ := hr
        refine wpAny_pure ?_
        show wpAny _ _ (ret Value.none) _ _ _
        exact wpAny_pure ⟨rfl, m⟩
    · match r2, hr2 with
      | .error e, hr => exact hr
      | .ok .next, hr => exact hr.elim
      | .ok .brk, hr => exact hr.elim
      | .ok .cont, hr => exact hr.elim
      | .ok (.ret v), hr =>
        obtain ⟨rfl, m⟩ := hr
        obtain ⟨h', tk, c', rfl, m2⟩ := id m
        repeat (any_goals (first | assumption | wp_step))
        exact h _ m
end
end Cw

set_option Elab.async false
set_option linter.all false
set_option maxRecDepth 100000
set_option maxHeartbeats 1000000
/-! More readings: dicts by comprehension, sorted sets, repr. -/
namespace Cw
open PySem PySem.Spec PyProof.Rows L2 Evl

/-! ### keys -/
theorem keys_put {κ : Type} [DecidableEq κ] (kvs : List (κ × V)) (k : κ) (v : V) : (putK kvs k v).map (·.1) = onceStep (kvs.map (·.1)) k := by
  unfold onceStep
  cases h : valV kvs k with
  | none =>
    rw [putK_new v h, List.map_append, if_neg (valV_not h)]
    rfl
  | some w =>
    rw [if_pos (valV_in h)]
    have ha : (kvs.any fun kv => decide (kv.1 = k)) = true := by
      rw [valV_any, h]
      rfl
    unfold putK
    rw [if_pos ha, List.map_map]
    refine List.map_congr_left fun p _ => ?_
    show (if p.1 = k then (p.1, v) else p).1 = p.1
    split <;> rfl
theorem once_map {α β : Type} [DecidableEq α] [DecidableEq β] {f : α → β} (hf : ∀ a b, f a = f b → a = b) : ∀ xs acc : List α, (xs.map f).foldl onceStep (acc.map f) = (xs.foldl onceStep acc).map f
  | [], acc => rfl
  | x :: xs, acc => by
    rw [List.map_cons, List.foldl_cons, List.foldl_cons, ← once_map hf xs]
    congr 1
    unfold onceStep
    by_cases h : x ∈ acc
    · rw [if_pos h, if_pos (List.mem_map.mpr ⟨x, h, rfl⟩)]
    · rw [if_neg h, if_neg fun q => ?_, List.map_append]
      · rfl
      · obtain ⟨y, hy, e⟩ := List.mem_map.mp q
        rw [hf _ _ e] at hy
        exact h hy
theorem inl_inj (a b : List Int) (h : a.map (Sum.inl (β := Str)) = b.map Sum.inl) : a = b :=
  List.map_inj_right (fun x y e => Sum.inl.inj e) |>.mp h

section
variable {K : PySem.W.Frag} {σ : L2.St} {H : Hp} {te : TE}
/-- the dict of the clauses of a list -/
def DcP (cs : List (List Int)) (H : Hp) (v : V) : Prop := ∃ p kvs, v = .ref p ∧ H p = some (.dT kvs) ∧ kvs.map (·.1) = (once cs).map fun c => c.map Sum.inl
def Dcw (H : Hp) (cs : List (List Int)) (D : Addr) (i : Nat) (H' : Hp) : Prop := H D = none ∧ Ex H H' ∧ ∃ kvs, H' D = some (.dT kvs) ∧ kvs.length ≤ i ∧ kvs.map (·.1) = (once (cs.take i)).map fun c => c.map Sum.inl
theorem ep_dcT {tl : TE} {j : Nat} {vs : List Nat} {xs : List V} {cs : List (List Int)} (h : Ev tl σ H (.ref a)) (hx : SqL K H a xs) (h0 : Paired (TkL H) xs cs) (hz : xs.length ≤ 40000)
    (hw : ∀ x, wipe ((wipe σ vs).set j (some x)) vs = wipe σ vs) (hj : ∀ x : V, ((wipe σ vs).set j (some x))[j]? = some (some x)) :
    EvP (tDcT (iList K tl) (gName j) (tVar j) (tC (.bl true)) vs) σ H (DcP cs) := fun H0 e Q q => h H0 e _ fun H1 e1 => by
  have hl : xs.length = cs.length := Paired.length h0
  refine ⟨a, rfl, ⟨xs, ex_l (e.trans e1) hx⟩, fun D nD => ⟨fun i m H' => m = xs.length - i ∧ i ≤ xs.length ∧ Dcw H1 cs D i H', ⟨_, rfl, Nat.zero_le _, nD, Ex.new nD, [], upd_same, Nat.le_refl _, rfl⟩, ?_⟩⟩
  rintro i m H' ⟨rfl, hi, _, e2, kvs, hD, hk, hkeys⟩
  have sx : SqL K H' a xs := ex_l ((e.trans e1).trans e2) hx
  by_cases hlt : i < xs.length
  · refine .inr ⟨⟨xs, xs[i], sx, List.getElem?_eq_getElem hlt⟩, Dcw H1 cs D (i + 1), fun H2 w => ⟨xs.length - (i + 1), by omega, rfl, hlt, w⟩, fun x H2 y => ?_⟩
    obtain ⟨rfl, y⟩ := y
    obtain ⟨c, hc, b, rfl, hb⟩ := paired_get h0 (y xs sx)
    refine ⟨hw _, .ref b, hj _, kvs, c.map Sum.inl, b, rfl, ?_, hD, sz_lt (by omega), nD, Ex.mut e2 nD, _, upd_same, ?_, ?_⟩
    · rw [inl_kV]
      exact e2 b _ (e1 b _ (e b _ hb))
    · exact Nat.le_trans (length_putK kvs _ _) (Nat.succ_le_succ hk)
    · rw [keys_put, hkeys, List.take_add_one, hc]
      show _ = (once (cs.take i ++ [c])).map _
      rw [once_snoc]
      have om := once_map (f := fun c : List Int => c.map (Sum.inl (β := Str))) inl_inj [c] (once (cs.take i))
      exact om
  · have ei : i = xs.length := by omega
    subst ei
    rw [hl, List.take_length] at hkeys
    exact .inl ⟨⟨xs, sx, Nat.le_refl _⟩, q _ _ (e1.trans e2) ⟨D, kvs, rfl, hD, hkeys⟩⟩
end

/-! ### set, sorted -/
section
variable {X : Cx}
/-- set(xs) of a list of ints -/
def rSetLI (K : PySem.W.Frag) (w : World) : List V → Hp → VK → Prop := fun vs H Q => ∃ (a : Addr) (ns : List Int), vs = [.ref a] ∧ SqL K H a (ns.map V.int) ∧ ns.length ≤ 60 ∧ ∀ p c, H p = none → c ≤ ns.length → Q (.ref p) (upd H p (SetO w p (fun j => decide (j ∈ ns)) c))
theorem cr_setLI (hc : X.calm = true) : CallR X (.type "set") (rSetLI X.K X.w) := by
  intro pins s σ H vs us Q I r h
  obtain ⟨a, ns, rfl, hs, hl, q⟩ := h
  obtain rfl := Vals.ref1 r
  obtain ⟨its, rv, pl, hz⟩ := I.list hs
  refine set_of_list (P := X.prog) (w := X.w) (ns := ns) (I.ok.hd hc) pl.isList (by simpa using rv.ints) (Nat.lt_of_le_of_lt (Nat.succ_le_succ hl) (by decide)) fun s2 m => ?_
  obtain ⟨h', tk, c, rfl, hS, hcl, kp⟩ := m
  exact ⟨.ref s.heap.objs.size, upd H s.heap.objs.size (SetO X.w s.heap.objs.size (fun j => decide (j ∈ ns)) c), I.laid (t' := tk) kp (Nat.le_refl _) (setO_new hS), rfl, q _ c (I.hok.fresh (Nat.le_refl _)) hcl⟩
/-- repr(x) of data -/
def rRepr (K : PySem.W.Frag) : List V → Hp → VK → Prop := fun vs H Q => ∃ a d, vs = [.ref a] ∧ Dp K H (.ref a) d ∧ d.showable = true ∧ d.hasDict = false ∧ d.shown.length ≤ sizeLine ∧ d.depth ≤ 8 ∧ Q (.str d.shown) H
theorem cr_repr {k : Nat} (hr : Room k X.A) (hg : X.A.guards = some []) : CallR X (.builtin "repr") (rRepr X.K) := by
  intro pins s σ H vs us Q I r h
  obtain ⟨a, d, rfl, hd, h1, h2, h3, h4, q⟩ := h
  obtain rfl := Vals.ref1 r
  obtain ⟨as, rd⟩ := Dp.reads I d (.ref a) (.ref a) hd rfl
  have hu := hr.units
  exact repr_of_reads' (h₀ := s.heap) rd h1 (PyData.noDict_hsm h2) hg (by omega) (fun _ _ e => e) (fun h' u tk kp => ⟨.str d.shown, H, I.kept kp, ⟨u, rfl⟩, q⟩) h3
end
end Cw

set_option Elab.async false
set_option linter.all false
set_option maxRecDepth 100000
set_option maxHeartbeats 2000000
/-! The program's defs: keys, residues, variables. -/
namespace Cw
open PySem PySem.Spec PyProof.Rows L2 Evl

def top (i : Nat) : Stmt := PySem.Challenge.pw_countsworn_k30_units_and_parts.main.body.getD i (.Pass ⟨0, 0, 0, 0⟩)
abbrev FnP (K : PySem.W.Frag) (x : Str) (st : Stmt) (f : Addr) (fd : FuncData) : Prop := FunD K x x (defArgs st) (defBody st) (defScope st) [] [] f fd
abbrev sLitKey : Stmt := top 1
abbrev sClKey : Stmt := top 2
abbrev sRes : Stmt := top 3
abbrev sVars : Stmt := top 4

/-- a def of the text, ready to be called -/
structure Fn (P : Program) (w : World) (K : PySem.W.Frag) (mg : Str → Option Value) (base : Heap) (x : Str) (k : Nat) (f : Addr) (fd : FuncData) (ps : List Str) (sp : Sp) : Prop where
  ok : FnOk P w K mg base CX0 k f fd ps sp
  b : Binds K fd ps []
  g : mg x = some (.ref f)
  kp : PySem.W.keepIn K (.ref f) = true
theorem Fn.pe {X : Cx} {x : Str} {k : Nat} {f : Addr} {fd : FuncData} {ps : List Str} {sp : Sp} {p pos : Pos} {e : Expr} {es : List Expr} {t : TA} (c : Fn X.prog X.w X.K X.mg X.base x k f fd ps sp) (hr : Room k X.A) (hg : Gl X x)
    (ha : PA X (e :: es) t) (hdb : (x == ("__debug__" : Str)) = false := by decide) (he : starEach (e :: es) X.env = (false, eval e X.env) :: starEach es X.env := by rfl) (hpl : (backTo pos (starEach es X.env)).any (·.1) = false := by rfl) :
    PE X (.Call (.Name x p) (e :: es) [] pos) (tCall sp [] E0 t) := pe_call c.ok hr hg c.g c.kp c.b .nil pass0 ha hdb he hpl
theorem Fn.glob {X : Cx} {x : Str} {k : Nat} {f : Addr} {fd : FuncData} {ps : List Str} {sp : Sp} {pos : Pos} (c : Fn X.prog X.w X.K X.mg X.base x k f fd ps sp) (hg : Gl X x) (hd : (x == ("__debug__" : Str)) = false := by decide) : PE X (.Name x pos) (tC (.ref f)) := pe_glob hg c.g rfl hd
/-- the built-in names that the module leaves alone -/
structure Bi (mg : Str → Option Value) : Prop where
  tuple : mg "tuple" = none
  list : mg "list" = none
  sorted : mg "sorted" = none
  abs : mg "abs" = none
  len : mg "len" = none
  min : mg "min" = none
  any : mg "any" = none
  all : mg "all" = none
  range : mg "range" = none
  set : mg "set" = none
  int : mg "int" = none
  repr : mg "repr" = none

/-! ### sizes -/
def Sm (R : List (List Int)) : Prop := R.length ≤ 15 ∧ ∀ c ∈ R, c.length ≤ 4
theorem Sm.sub {R S : List (List Int)} (h : Sm R) (hl : S.length ≤ R.length) (hs : ∀ c ∈ S, c.length ≤ 4) : Sm S := ⟨Nat.le_trans hl h.1, hs⟩
theorem flat_len : ∀ R : List (List Int), (∀ c ∈ R, c.length ≤ 4) → (litsM R).length ≤ 4 * R.length
  | [], _ => Nat.le_refl _
  | c :: R, h => by
    have h1 := h c List.mem_cons_self
    have h2 := flat_len R fun d hd => h d (List.mem_cons_of_mem _ hd)
    unfold litsM at h2 ⊢
    rw [List.flatMap_cons, List.length_append, List.length_map, List.length_cons]
    omega
theorem Sm.lits {R : List (List Int)} (h : Sm R) : (litsM R).length ≤ 60 := by
  have h1 := flat_len R h.2
  have h2 := h.1
  omega

/-! ### lists and tuples made -/
section
variable {K : PySem.W.Frag} {H : Hp} {β : Type} {Pb : β → Hp → V → Prop} {bs : List β}
def TpP (Pb : β → Hp → V → Prop) (bs : List β) (H : Hp) (v : V) : Prop := ∃ p ys, v = .ref p ∧ H p = some (.tup ys) ∧ Paired (fun y b => Pb b H y) ys bs
/-- tuple(xs) of a list just made -/
theorem rc_tuple {v : V} (hs : ∀ b, Stb (Pb b)) (h : LsP Pb bs H v) : RcP (fun xs H Q => ∃ p ys, xs = [V.ref p] ∧ ((SqL K H p ys ∧ ∀ l, H l = none → Q (.ref l) (upd H l (.tup ys))) ∨ (SqT K H p ys ∧ Q (.ref p) H))) [v] H (TpP Pb bs) := by
  obtain ⟨p, ys, rfl, hp, pr⟩ := h
  intro Q q
  refine ⟨p, ys, rfl, .inl ⟨sq_of hp, fun l nl => q _ _ (Ex.new nl) ⟨l, ys, rfl, upd_same, paired_imp (fun y b z => hs b _ _ y (ExT.new nl) z) pr⟩⟩⟩
theorem ep_tuple {σ : L2.St} {te : TE} (hs : ∀ b, Stb (Pb b)) (h : EvP te σ H (LsP Pb bs)) :
    EvP (tCB (fun xs H Q => ∃ p ys, xs = [V.ref p] ∧ ((SqL K H p ys ∧ ∀ l, H l = none → Q (.ref l) (upd H l (.tup ys))) ∨ (SqT K H p ys ∧ Q (.ref p) H))) (tCons te tNil)) σ H (TpP Pb bs) :=
  ep_cb (ep_a1 h) fun vs H1 e hv => by
    obtain ⟨w, rfl, hw⟩ := hv
    exact rc_tuple hs hw
theorem paired_ints : ∀ {ys : List V} {ns : List Int}, Paired (fun y n => y = V.int n) ys ns → ys = ns.map V.int
  | _, _, .nil => rfl
  | _, _, .cons h t => by
    rw [h, paired_ints t]
    rfl
theorem ints_paired : ∀ ns : List Int, Paired (fun y n => y = V.int n) (ns.map V.int) ns
  | [] => .nil
  | n :: ns => .cons rfl (ints_paired ns)
theorem TpP.ints {v : V} {ns : List Int} (h : TpP (fun n _ y => y = V.int n) ns H v) : TkL H v ns := by
  obtain ⟨p, ys, rfl, hp, pr⟩ := h
  exact ⟨p, rfl, by rw [hp, paired_ints pr]⟩
theorem TpP.cls {v : V} {cs : List (List Int)} (h : TpP (fun c H y => TkL H y c) cs H v) : TkR H v cs := h
theorem LsP.ints {v : V} {ns : List Int} (h : LsP (fun n _ y => y = V.int n) ns H v) : ∃ p, v = .ref p ∧ H p = some (.lst (ns.map V.int)) := by
  obtain ⟨p, ys, rfl, hp, pr⟩ := h
  exact ⟨p, rfl, by rw [hp, paired_ints pr]⟩
theorem LsP.of_ints {p : Addr} {ns : List Int} (h : H p = some (.lst (ns.map V.int))) : LsP (fun n _ y => y = V.int n) ns H (.ref p) := ⟨p, _, rfl, h, ints_paired ns⟩
theorem stb_int (n : Int) : Stb (fun _ y => y = V.int n) := stb_eq _
theorem stb_tkl (c : List Int) : Stb (fun H y => TkL H y c) := stb_L c
end

/-! ### literal_key -/
def lk (l : Int) : List Int := [ab l, if 0 < l then 1 else 0]
theorem lk_D (l : Int) : lkD l = dI (lk l) := rfl
theorem ck_D (c : List Int) : ckD c = dR (c.map lk) := by
  unfold ckD dR
  rw [List.map_map]
  rfl
def spLK : Sp := fun vs H Q _ => ∃ l : Int, vs = [.int l] ∧ ∀ v H', Ex H H' → TkL H' v (lk l) → Q v H'
theorem scLK : FnScope ["literal"] ["literal"] (defScope sLitKey) := ⟨rfl, rfl, rfl, by decide +kernel, rfl, by decide +kernel, by decide +kernel⟩
section
variable {P : Program} {w : World} {K : PySem.W.Frag} {mg : Str → Option Value} {base : Heap}
theorem ok_litkey {f : Addr} {fd : FuncData} {k : Nat} (F : FnP K "literal_key" sLitKey f fd) : FnOk P w K mg base CX0 (k + 1) f fd ["literal"] spLK := by
  refine F.ok scLK (fun vs H Q E h => ?_) (fun cdv A outer s H vs Q E hr h => ?_)
  · obtain ⟨l, rfl, _⟩ := h
    rfl
  · obtain ⟨l, rfl, q⟩ := h
    refine ⟨_, PSs.nox (pss_one (ps_ret (pe_ifExp (pt_cmpR op_gt (pv 0) pe_int (nomark _)) (pe_tup (pa_cons (pv 0) (pa_cons pe_int pa_nil))) (pe_tup (pa_cons (pe_un un_neg (pv 0)) (pa_cons pe_int pa_nil)))))), ?_⟩
    refine p_ret (P := fun H v => TkL H v (lk l)) (ep_if (b := decide (0 < l)) (et_test (ev_op (ev_var rfl) ev_c rv_I0)) (fun hb => ?_) fun hb => ?_) q
    · have h0 := of_decide_eq_true hb
      refine ep_tup (PA := fun _ vs => vs = [.int (ab l), .int 1]) (fun H1 e Q q => (ea_cons (ev_var (v := .int l) rfl) (ea_cons ev_c ea_nil)) H1 e Q fun H2 e2 => q _ H2 e2 (by rw [ab_pos h0])) (fun vs H1 hv => by rw [hv]; show 2 ≤ 100000; decide) fun vs H1 p e hv np => ⟨p, rfl, ?_⟩
      rw [upd_same, hv]
      unfold lk
      rw [if_pos h0]
      rfl
    · have h0 := of_decide_eq_false hb
      refine ep_tup (PA := fun _ vs => vs = [.int (ab l), .int 0]) (fun H1 e Q q => (ea_cons (ev_un (ev_var (v := .int l) rfl) ru_neg) (ea_cons ev_c ea_nil)) H1 e Q fun H2 e2 => q _ H2 e2 (by rw [ab_neg h0])) (fun vs H1 hv => by rw [hv]; show 2 ≤ 100000; decide) fun vs H1 p e hv np => ⟨p, rfl, ?_⟩
      rw [upd_same, hv]
      unfold lk
      rw [if_neg h0]
      rfl
/-! ### clause_key -/
def spCK : Sp := fun vs H Q _ => ∃ (v : V) (c : List Int), vs = [v] ∧ TkL H v c ∧ c.length ≤ 1000 ∧ ∀ v H', Ex H H' → TkR H' v (c.map lk) → Q v H'
theorem scCK : FnScope ["clause", "literal"] ["clause"] (defScope sClKey) := ⟨rfl, rfl, rfl, by decide +kernel, rfl, by decide +kernel, by decide +kernel⟩
theorem spLK_P {l : Int} {H : Hp} : SpP spLK [.int l] H (fun H v => TkL H v (lk l)) := fun H1 _ Q q _ => ⟨l, rfl, fun v H' e h => q v H' e h⟩
theorem fm_some {α β : Type} (f : α → β) (xs : List α) : xs.filterMap (fun a => some (f a)) = xs.map f := by
  induction xs with
  | nil => rfl
  | cons x xs ih => rw [List.filterMap_cons, ih]; rfl
theorem ok_clkey {f f1 : Addr} {fd fd1 : FuncData} {k : Nat} (F : FnP K "clause_key" sClKey f fd) (bi : Bi mg) (LK : Fn P w K mg base "literal_key" (k + 1) f1 fd1 ["literal"] spLK) : FnOk P w K mg base CX0 (k + 2) f fd ["clause"] spCK := by
  refine F.ok scCK (fun vs H Q E h => ?_) (fun cdv A outer s H vs Q E hr h => ?_)
  · obtain ⟨v, c, rfl, _⟩ := h
    rfl
  · obtain ⟨v, c, rfl, hc, hl, q⟩ := h
    obtain ⟨a, rfl, ha⟩ := hc
    refine ⟨_, PSs.nox (pss_one (ps_ret (pe_callTy call_tuple_of (by rfl) bi.tuple (by decide +kernel) (pa_cons (pe_lc (own := [("literal", 1)]) (g := gName 1) (tt := tYes) rfl scCK.nd (pi_tup (pv 0)) (blkOk_by (N := ["clause", "literal"]) (sc := defScope sClKey) (by decide +kernel))
      (fun _ _ _ _ _ => pg_name (i := 1) scCK.nd rfl (Or.inl rfl)) (fun _ _ _ _ _ => pts_nil) (fun _ _ _ _ _ => LK.pe hr (by rfl) (pa_cons (pv 1) pa_nil))) pa_nil)))), ?_⟩
    refine p_ret (P := fun H v => TkR H v (c.map lk)) (ep_imp (ep_tuple (Pb := fun d H y => TkL H y d) (bs := c.map lk) stb_tkl ?_) fun w H1 _ h => h.cls) q
    rw [← fm_some lk c]
    refine ep_lcT (σ := [some (.ref a), none]) (vs := [1]) (j := 1) (P0 := fun y n => y = V.int n) (xs := c.map V.int) (fun l => some (lk l)) stb_tkl (ep_of (ev_var (i := 0) (v := .ref a) rfl) fun H1 e => ⟨a, rfl, st_of (e a _ ha)⟩) (ints_paired c) (by rw [List.length_map]; omega) (fun x => rfl) (fun x l H1 _ _ _ => ey) fun x l b H1 e p0 _ hb => ?_
    have eb : lk l = b := Option.some.inj hb
    subst eb p0
    exact ep_call (ep_a1 (ep_of (P := fun _ z => z = V.int l) (ev_var rfl) fun _ _ => rfl)) fun vs H2 _ hv => by
      obtain ⟨z, rfl, rfl⟩ := hv
      exact spLK_P
end
end Cw

set_option Elab.async false
set_option linter.all false
set_option maxRecDepth 100000
set_option maxHeartbeats 2000000
/-! Sorting by the keys; residues; variables. -/
namespace Cw
open PySem PySem.Spec PyProof.Rows L2 Evl

/-! ### keys are alike -/
theorem alike_all {α : Type} {f : α → PyData} (h : ∀ a b, PySem.W.alike (f a) (f b) = true) : ∀ xs ys : List α, PySem.W.alikeAll (xs.map f) (ys.map f) = true
  | [], _ => by simp [PySem.W.alikeAll]
  | _ :: _, [] => by simp [PySem.W.alikeAll]
  | x :: xs, y :: ys => by simp [PySem.W.alikeAll, h x y, alike_all h xs ys]
theorem alike_I (a b : List Int) : PySem.W.alike (dI a) (dI b) = true := by
  show PySem.W.alike (.tuple (a.map .int)) (.tuple (b.map .int)) = true
  simp only [PySem.W.alike]
  exact alike_all (fun a b => by simp [PySem.W.alike]) a b
theorem alike_R (a b : List (List Int)) : PySem.W.alike (dR a) (dR b) = true := by
  show PySem.W.alike (.tuple (a.map dI)) (.tuple (b.map dI)) = true
  simp only [PySem.W.alike]
  exact alike_all alike_I a b
section
variable {P : Program} {w : World} {K : PySem.W.Frag} {mg : Str → Option Value} {base : Heap} {σ : L2.St} {H : Hp}
theorem ep_ckw {r : List V → List V → Hp → VK → Prop} {ta : TA} {z : V} {PA : Hp → List V → Prop} {Pr : Hp → V → Prop} (h : EvPA ta σ H PA) (hr : ∀ vs H1, Ex H H1 → PA H1 vs → RcP (fun v H Q => r v [z] H Q) vs H1 Pr) : EvP (tCKw r ta (tCons (tC z) tNil)) σ H Pr := fun H1 e Q q =>
  h H1 e _ fun vs H2 e2 hv => hr vs H2 (e.trans e2) hv Q fun v H3 e3 p => q v H3 (e2.trans e3) p
theorem ko_ck {bs : List (List Int)} (hl : ∀ c ∈ bs, c.length ≤ 1000) : KeyOk K spCK H bs (TkL H) ckD (fun c H v => TkR H v (c.map lk)) where
  mo b := (stb_R _).mo
  dp b H v h := by
    rw [ck_D]
    exact h.dp
  like b c := by
    rw [ck_D, ck_D]
    exact alike_R _ _
  tup b := ⟨_, rfl⟩
  deep b := by
    rw [ck_D]
    exact Nat.le_trans (depth_R _) (by decide)
  turn x b p hb := fun H1 e Q q E => ⟨x, b, rfl, p.mono (ExT.of e), hl b hb, q⟩
theorem ko_lk {bs : List Int} : KeyOk K spLK H bs (fun y n => y = V.int n) lkD (fun l H v => TkL H v (lk l)) where
  mo b := (stb_L _).mo
  dp b H v h := h.dp
  like b c := alike_I (lk b) (lk c)
  tup b := ⟨_, rfl⟩
  deep b := Nat.le_trans (depth_I (lk b)) (by decide)
  turn x b p hb := fun H1 e Q q E => ⟨b, by rw [p], q⟩
theorem rc_srtD {f : Addr} {sp : Sp} {v : V} {cs : List (List Int)} {KP : List Int → Hp → V → Prop} (h : DcP cs H v) (KO : KeyOk K sp H (once cs) (TkL H) ckD KP) :
    RcP (fun vs H Q => rSortFD K f sp vs [.ref f] H Q) [v] H (LsP (fun c H y => TkL H y c) (resM cs)) := by
  obtain ⟨p, kvs, rfl, hp, hk⟩ := h
  exact fun Q q => ⟨p, kvs, once cs, ckD, KP, rfl, rfl, hp, hk, KO, fun p ys H' e _ hp' pr => q _ _ e ⟨p, ys, rfl, hp', paired_imp (fun y c z => z.mono (ExT.of e)) pr⟩⟩
theorem rc_srt {f : Addr} {sp : Sp} {v : V} {β : Type} {bs : List β} {Pb : β → Hp → V → Prop} {kd : β → PyData} {KP : β → Hp → V → Prop} (hs : ∀ b, Stb (Pb b)) (h : LsP Pb bs H v) (KO : KeyOk K sp H bs (fun y b => Pb b H y) kd KP) :
    RcP (fun vs H Q => rSortF K f sp vs [.ref f] H Q) [v] H (LsP Pb (bs.mergeSort (PySem.W.dataLe false kd))) := by
  obtain ⟨p, ys, rfl, hp, pr⟩ := h
  exact fun Q q => ⟨p, ys, β, bs, _, kd, KP, rfl, rfl, sq_of hp, pr, KO, fun p ys H' e _ hp' pr => q _ _ e ⟨p, ys, rfl, hp', paired_imp (fun y b z => hs b _ _ y (ExT.of e) z) pr⟩⟩
/-! ### residue_of -/
def ClsP (cs : List (List Int)) (H : Hp) (v : V) : Prop := LsP (fun c H y => TkL H y c) cs H v
theorem ClsP.mono {H H' : Hp} {v : V} {cs : List (List Int)} (e : Ex H H') (h : ClsP cs H v) : ClsP cs H' v := by
  obtain ⟨p, ys, rfl, hp, pr⟩ := h
  exact ⟨p, ys, rfl, e p _ hp, paired_imp (fun y c z => z.mono (ExT.of e)) pr⟩
def spRes : Sp := fun vs H Q _ => ∃ (v : V) (cs : List (List Int)), vs = [v] ∧ ClsP cs H v ∧ cs.length ≤ 60 ∧ (∀ c ∈ cs, c.length ≤ 1000) ∧ ∀ v H', Ex H H' → TkR H' v (resM cs) → Q v H'
theorem scRes : FnScope ["clauses", "there", "clause"] ["clauses"] (defScope sRes) := ⟨rfl, rfl, rfl, by decide +kernel, rfl, by decide +kernel, by decide +kernel⟩
theorem ok_res {f f1 : Addr} {fd fd1 : FuncData} {k : Nat} (F : FnP K "residue_of" sRes f fd) (bi : Bi mg) (CK : Fn P w K mg base "clause_key" (k + 2) f1 fd1 ["clause"] spCK) : FnOk P w K mg base CX0 (k + 5) f fd ["clauses"] spRes := by
  refine F.ok scRes (fun vs H Q E h => ?_) (fun cdv A outer s H vs Q E hr h => ?_)
  · obtain ⟨v, c, rfl, _⟩ := h
    rfl
  · obtain ⟨v, cs, rfl, hc, hl, h1, q⟩ := h
    have hc' := hc
    obtain ⟨a, ys, rfl, ha, pr⟩ := hc'
    refine ⟨_, PSs.nox (pss_cons (ps_setDcT (i := 1) (own := [("clause", 2)]) (g := gName 2) hr.units0 rfl scRes.nd rfl (by rfl) (sw_trueD rfl rfl rfl (by decide +kernel)) (pi_list (pv 0)) (blkOk_by (N := ["clauses", "there", "clause"]) (sc := defScope sRes) (by decide +kernel))
        (fun _ _ _ _ _ => pg_name (i := 2) scRes.nd rfl (Or.inl rfl)) (fun _ _ _ _ _ => pv 2) (fun _ _ _ _ _ => pe_bl))
      (pss_one (ps_ret (pe_callTy call_tuple_of (by rfl) bi.tuple (by decide +kernel) (pa_cons (pe_callBK (cr_sortedFD rfl CK.ok hr CK.b) (by rfl) bi.sorted (by decide +kernel) (pa_cons (pv 1) pa_nil) (pk_cons (CK.glob (by rfl)) pk_nil)) pa_nil))))), ?_⟩
    refine p_asgS (P := DcP cs) (ep_dcT (σ := [some (.ref a), none, none]) (vs := [2]) (j := 2) (ev_var (i := 0) rfl) (sq_of ha) pr (by rw [Paired.length pr]; omega) (fun x => rfl) (fun x => rfl)) fun d H1 e hd => ?_
    refine p_ret (P := fun H v => TkR H v (resM cs)) (ep_imp (ep_tuple (Pb := fun d H y => TkL H y d) stb_tkl (ep_ckw (ep_a1 (ep_of (P := DcP cs) (ev_var (i := 1) rfl) fun H2 e2 => ?_)) fun vs H2 e2 hv => ?_)) fun w H1 _ h => h.cls) fun v H2 e2 h2 => q v H2 (e.trans e2) h2
    · obtain ⟨p, kvs, rfl, hp, hk⟩ := hd
      exact ⟨p, kvs, rfl, e2 p _ hp, hk⟩
    · obtain ⟨z, rfl, hz⟩ := hv
      exact rc_srtD hz (ko_ck fun c hc => h1 c (mem_once.mp hc))
end
end Cw

set_option Elab.async false
set_option linter.all false
set_option maxRecDepth 100000
set_option maxHeartbeats 2000000
/-! variables_of. -/
namespace Cw
open PySem PySem.Spec PyProof.Rows L2 Evl

theorem ru65 {k : Nat} {A : Around} (r : Room k A) : A.units + 65 < cLine := by have := r.un; omega
theorem ru1 {k : Nat} {A : Around} (r : Room k A) : A.units + 1 < cLine := by have := r.un; omega
section
variable {K : PySem.W.Frag} {σ : L2.St} {H : Hp} {te td ty tv : TE} {D : Ends} {tz : TS}
theorem rc_abs {l : Int} : RC (fun xs H Q => ∃ i, xs = [V.int i] ∧ Q (.int (if i < 0 then -i else i)) H) [.int l] H (.int (ab l)) := fun H1 e Q q => ⟨l, rfl, q H1 (Ex.refl H1)⟩
theorem p_dput {d : Addr} {kvs : List (Key × V)} {k : Key} {v : V} (hd : H d = some (.dK kvs)) (hv : Ev tv σ H v) (ho : Ev td σ H (.ref d)) (hi : Ev ty σ H (kV k)) (hz : kvs.length < 100000) (kk : ∀ H1, Ex H H1 → D.nx σ (upd H1 d (.dK (putK kvs k v)))) : sDPut td ty tv D σ H :=
  hv H (Ex.refl H) _ fun H1 e1 => ho H1 e1 _ fun H2 e2 => hi H2 (e1.trans e2) _ fun H3 e3 => ⟨d, _, rfl, DPut.k (((e1.trans e2).trans e3) d _ hd) (sz_lt hz), kk H3 ((e1.trans e2).trans e3)⟩
/-- the dict of the values seen -/
def Vw (H : Hp) (d : Addr) (ks : List Int) (H' : Hp) : Prop := H d = none ∧ Ex H H' ∧ ∃ kvs, H' d = some (.dK kvs) ∧ kvs.map (·.1) = (once ks).map Sum.inl
theorem inl_inj0 (a b : Int) (h : (Sum.inl a : Key) = Sum.inl b) : a = b := Sum.inl.inj h
theorem Vw.len {d : Addr} {ks : List Int} {kvs : List (Key × V)} (h : kvs.map (·.1) = (once ks).map Sum.inl) : kvs.length ≤ ks.length := by
  have e := congrArg List.length h
  rw [List.length_map, List.length_map] at e
  rw [e]
  exact len_once ks
theorem Vw.put {H' H1 : Hp} {d : Addr} {ks : List Int} {kvs : List (Key × V)} {n : Int} {v : V} (nD : H d = none) (e : Ex H H') (e1 : Ex H' H1) (hk : kvs.map (·.1) = (once ks).map Sum.inl) : Vw H d (ks ++ [n]) (upd H1 d (.dK (putK kvs (.inl n) v))) := by
  refine ⟨nD, Ex.mut (e.trans e1) nD, _, upd_same, ?_⟩
  rw [keys_put, hk]
  exact (once_map (f := (Sum.inl : Int → Key)) inl_inj0 [n] (once ks)).trans (by rw [once_snoc]; rfl)
theorem pre_lits {R : List (List Int)} (h : Sm R) (i : Nat) : (litsM (R.take i)).length ≤ 60 := by
  have h1 := flat_len (R.take i) fun c hc => h.2 c (List.mem_of_mem_take hc)
  have h2 : (R.take i).length ≤ R.length := by rw [List.length_take]; exact Nat.min_le_right _ _
  have := h.1
  omega
theorem lits_next {R : List (List Int)} {i : Nat} {c : List Int} (h : R[i]? = some c) : litsM (R.take (i + 1)) = litsM (R.take i) ++ c.map ab := by
  unfold litsM
  rw [List.take_add_one, h, List.flatMap_append]
  simp
end
def spVar : Sp := fun vs H Q _ => ∃ (v : V) (R : List (List Int)), vs = [v] ∧ TkR H v R ∧ Sm R ∧ ∀ v H', Ex H H' → TkL H' v (varsM R) → Q v H'
theorem scVar : FnScope ["residue", "there", "clause", "literal"] ["residue"] (defScope sVars) := ⟨rfl, rfl, rfl, by decide +kernel, rfl, by decide +kernel, by decide +kernel⟩
section
variable {P : Program} {w : World} {K : PySem.W.Frag} {mg : Str → Option Value} {base : Heap}
theorem ok_vars {f : Addr} {fd : FuncData} {k : Nat} (F : FnP K "variables_of" sVars f fd) (bi : Bi mg) : FnOk P w K mg base CX0 (k + 1) f fd ["residue"] spVar := by
  refine F.ok scVar (fun vs H Q E h => ?_) (fun cdv A outer s H vs Q E hr h => ?_)
  · obtain ⟨v, c, rfl, _⟩ := h
    rfl
  · obtain ⟨v, R, rfl, hR, hs, q⟩ := h
    obtain ⟨a, ys, rfl, ha, pr⟩ := hR
    refine ⟨_, PSs.nox (pss_cons (ps_set (i := 1) scVar.nd rfl (.inl rfl) pe_dnewK)
      (pss_cons (ps_for PassesOwn.never rfl (pi_tup (pv 0)) (pg_name (i := 2) scVar.nd rfl (.inl rfl))
        (pss_one (ps_for PassesOwn.never rfl (pi_tup (pv 2)) (pg_name (i := 3) scVar.nd rfl (.inl rfl))
          (pss_one (ps_dput (ru1 hr) (pv 1) (pe_callB call_abs (by rfl) bi.abs (by decide +kernel) (pa_cons (pv 3) pa_nil)) pe_bl (by rfl))))))
      (pss_one (ps_ret (pe_callTy call_tuple_of (by rfl) bi.tuple (by decide +kernel) (pa_cons (pe_callB (call_sortedDI rfl) (by rfl) bi.sorted (by decide +kernel) (pa_cons (pv 1) pa_nil)) pa_nil)))))), ?_⟩
    intro d nd
    refine q_forT (K := K) (a := a) (xs := ys) (ev_var (i := 0) rfl) (st_of (Ex.new nd a _ ha)) (fun i σ' H' => (∃ y2 y3, σ' = [some (.ref a), some (.ref d), y2, y3]) ∧ Vw H d (litsM (R.take i)) H')
      (fun H1 e => ⟨⟨none, none, rfl⟩, nd, (Ex.new nd).trans e, [], e d _ upd_same, rfl⟩) (fun i σ' H' _ p => st_of (p.2.2.1 a _ ha)) (fun i x σ' H' hi p => ?_) fun σ' H' p => ?_
    · obtain ⟨⟨y2, y3, rfl⟩, w⟩ := p
      obtain ⟨c, hc, b, rfl, hb⟩ := paired_get pr hi
      refine s_forT (K := K) (a := b) (xs := c.map V.int) (ev_var (i := 2) rfl) (st_of (w.2.1 b _ hb)) (fun j σ' H' => (∃ y3, σ' = [some (.ref a), some (.ref d), some (.ref b), y3]) ∧ Vw H d (litsM (R.take i) ++ (c.take j).map ab) H')
        (fun H1 e => ⟨⟨y3, rfl⟩, ?_⟩) (fun i σ' H' _ p => st_of (p.2.2.1 b _ hb)) (fun j x σ' H' hj p => ?_) fun σ' H' p => ?_
      · obtain ⟨nD, e0, kvs, hD, hk⟩ := w
        exact ⟨nD, e0.trans e, kvs, e d _ hD, by rw [List.take_zero, List.map_nil, List.append_nil]; exact hk⟩
      · obtain ⟨⟨y3, rfl⟩, nD, e0, kvs, hD, hk⟩ := p
        obtain ⟨l, hl, rfl⟩ : ∃ l, c[j]? = some l ∧ x = .int l := by
          rw [List.getElem?_map] at hj
          cases hcj : c[j]? with
          | none => rw [hcj] at hj; cases hj
          | some l => rw [hcj] at hj; exact ⟨l, rfl, (Option.some.inj hj).symm⟩
        refine p_dput (k := .inl (ab l)) (v := .bl true) hD ev_c (ev_var (i := 1) rfl) (ev_cb (ea_cons (ev_var (i := 3) (v := .int l) rfl) ea_nil) rc_abs) ?_ fun H1 e1 => ⟨⟨some (.int l), rfl⟩, ?_⟩
        · have h1 := Vw.len (d := d) hk
          have h2 := pre_lits hs i
          have h3 := hs.2 c (List.mem_of_getElem? hc)
          have h4 : ((c.take j).map ab).length ≤ c.length := by rw [List.length_map, List.length_take]; exact Nat.min_le_right _ _
          rw [List.length_append] at h1
          omega
        · have e2 : litsM (R.take i) ++ (c.take (j + 1)).map ab = (litsM (R.take i) ++ (c.take j).map ab) ++ [ab l] := by
            rw [List.take_add_one, hl, List.map_append, List.append_assoc]
            rfl
          rw [e2]
          exact Vw.put nD e0 e1 hk
      · obtain ⟨⟨y3, rfl⟩, w⟩ := p
        refine ⟨⟨_, _, rfl⟩, ?_⟩
        rw [List.length_map, List.take_length] at w
        rw [lits_next hc]
        exact w
    · obtain ⟨⟨y2, y3, rfl⟩, nD, e0, kvs, hD, hk⟩ := p
      rw [Paired.length pr, List.take_length] at hk
      refine p_ret (P := fun H v => TkL H v (varsM R)) (ep_imp (ep_tuple (Pb := fun n _ y => y = V.int n) (bs := varsM R) stb_int (ep_cb (ep_a1 (ep_of (P := fun H1 v => v = .ref d ∧ H1 d = some (.dK kvs)) (ev_var (i := 1) rfl) fun H2 e2 => ⟨rfl, e2 d _ hD⟩)) fun vs H2 e2 hv => ?_)) fun w H1 _ h => h.ints) fun v H2 e2 h2 => q v H2 (e0.trans e2) h2
      obtain ⟨z, rfl, rfl, hz⟩ := hv
      refine fun Q q => ⟨d, kvs, once (litsM R), rfl, .inl hz, hk, Nat.lt_of_le_of_lt (len_once _) (Nat.lt_of_le_of_lt hs.lits (by decide)), fun ys p pm pw np => q _ _ (Ex.new np) ⟨p, _, rfl, upd_same, ?_⟩⟩
      rw [srtI_of pm pw]
      exact ints_paired _
end
end Cw

set_option Elab.async false
set_option linter.all false
set_option maxRecDepth 100000
set_option maxHeartbeats 2000000
/-! under, units, has_empty. -/
namespace Cw
open PySem PySem.Spec PyProof.Rows L2 Evl

theorem flat_ints (ns : List Int) : (ns.map V.int).all flatV = true := by
  rw [List.all_map]
  exact List.all_eq_true.mpr fun _ _ => rfl
theorem in_ints (l : Int) (ns : List Int) : inV (.int l) (ns.map V.int) = decide (l ∈ ns) := by
  unfold inV
  rw [List.any_map]
  induction ns with
  | nil => rfl
  | cons n ns ih =>
    rw [List.any_cons, ih]
    show (decide (n = l) || decide (l ∈ ns)) = _
    rw [← Bool.decide_or]
    exact decide_eq_decide.mpr (by rw [List.mem_cons]; exact ⟨fun h => h.imp Eq.symm id, fun h => h.imp Eq.symm id⟩)
theorem rv_inI {K : PySem.W.Frag} {H : Hp} {a : Addr} {l : Int} {ns : List Int} (h : H a = some (.tup (ns.map V.int))) : RV (rIn K false) (.int l) (.ref a) H (.bl (decide (l ∈ ns))) := by
  rw [← in_ints]
  exact rv_isT (st_of h) rfl (flat_ints ns)
theorem rv_niI {K : PySem.W.Frag} {H : Hp} {a : Addr} {l : Int} {ns : List Int} (h : H a = some (.tup (ns.map V.int))) : RV (rIn K true) (.int l) (.ref a) H (.bl (!decide (l ∈ ns))) := by
  rw [← in_ints]
  exact rv_niT (st_of h) rfl (flat_ints ns)
theorem rv_inIL {K : PySem.W.Frag} {H : Hp} {a : Addr} {l : Int} {ns : List Int} (h : H a = some (.lst (ns.map V.int))) : RV (rIn K false) (.int l) (.ref a) H (.bl (decide (l ∈ ns))) := by
  rw [← in_ints]
  exact rv_isL (sq_of h) rfl (flat_ints ns)
theorem rv_niIL {K : PySem.W.Frag} {H : Hp} {a : Addr} {l : Int} {ns : List Int} (h : H a = some (.lst (ns.map V.int))) : RV (rIn K true) (.int l) (.ref a) H (.bl (!decide (l ∈ ns))) := by
  rw [← in_ints]
  exact rv_niL (sq_of h) rfl (flat_ints ns)
theorem ne_int (a b : Int) : (!decide (V.int a = V.int b)) = decide (a ≠ b) := by
  by_cases h : a = b
  · subst h
    simp
  · rw [decide_eq_false fun e => h (V.int.inj e), decide_eq_true h]
    rfl
theorem eq_int (a b : Int) : decide (V.int a = V.int b) = decide (a = b) := decide_eq_decide.mpr ⟨V.int.inj, congrArg _⟩
section
variable {α β : Type} {H H' H1 : Hp} {Pb : β → Hp → V → Prop} {f : α → Option β} {as : List α} {D : Addr} {i : Nat} {a : α}
theorem lcw_get (w : Lcw H Pb f as D i H') : ∃ ys, H' D = some (.lst ys) ∧ ys.length ≤ i := let ⟨_, _, ys, h, l, _⟩ := w; ⟨ys, h, l⟩
theorem lcw_ex (w : Lcw H Pb f as D i H') : Ex H H' := w.2.1
theorem lcw_start (e : Ex H H1) (nD : H D = none) (h : H1 D = some (.lst [])) : Lcw H Pb f as D 0 H1 := ⟨nD, e, [], h, Nat.le_refl _, by rw [List.take_zero]; exact .nil⟩
theorem lcw_mono (hs : ∀ b, Stb (Pb b)) (w : Lcw H Pb f as D i H') (e : Ex H' H1) : Lcw H Pb f as D i H1 := by
  obtain ⟨nD, e0, ys, hD, hl, pr⟩ := w
  exact ⟨nD, e0.trans e, ys, e D _ hD, hl, paired_imp (fun y b q => hs b H' H1 y (ExT.of e) q) pr⟩
theorem lcw_skip (hs : ∀ b, Stb (Pb b)) (w : Lcw H Pb f as D i H') (ha : as[i]? = some a) (hf : f a = none) (e : Ex H' H1) : Lcw H Pb f as D (i + 1) H1 := by
  obtain ⟨nD, e0, ys, hD, hl, pr⟩ := w
  refine ⟨nD, e0.trans e, ys, e D _ hD, Nat.le_succ_of_le hl, ?_⟩
  rw [fm_next ha, hf]
  show Paired _ ys (_ ++ [])
  rw [List.append_nil]
  exact paired_imp (fun y b q => hs b H' H1 y (ExT.of e) q) pr
theorem lcw_app (hs : ∀ b, Stb (Pb b)) {b : β} {y : V} {ys : List V} (w : Lcw H Pb f as D i H') (ha : as[i]? = some a) (hf : f a = some b) (hy0 : H' D = some (.lst ys)) (e : Ex H' H1) (hy : Pb b H1 y) : Lcw H Pb f as D (i + 1) (upd H1 D (.lst (ys ++ [y]))) := by
  obtain ⟨nD, e0, zs, hD, hl, pr⟩ := w
  obtain rfl : zs = ys := by
    have := hD.symm.trans hy0
    cases this
    rfl
  refine ⟨nD, Ex.mut (e0.trans e) nD, zs ++ [y], upd_same, by rw [List.length_append]; exact Nat.succ_le_succ hl, ?_⟩
  have x4 : ExT H1 (upd H1 D (.lst (zs ++ [y]))) := ExT.lst (e D _ hD)
  rw [fm_next ha, hf]
  exact paired_snoc (F := fun z c => Pb c (upd H1 D (.lst (zs ++ [y]))) z) (a := y) (b := b) (hs b H1 _ y x4 hy) (paired_imp (fun z c q => hs c H' _ z ((ExT.of e).trans x4) q) pr)
theorem lcw_end (w : Lcw H Pb f as D as.length H') : LsP Pb (as.filterMap f) H' (.ref D) := by
  obtain ⟨_, _, ys, hD, _, pr⟩ := w
  rw [List.take_length] at pr
  exact ⟨D, ys, rfl, hD, pr⟩
end
theorem stb_tk : ∀ c : List Int, Stb (fun H y => TkL H y c) := stb_L
theorem cut_len {l : Int} {c d : List Int} (h : cutM l c = some d) : d.length ≤ c.length := by
  unfold cutM at h
  split at h
  · cases h
  · rw [← Option.some.inj h]
    exact List.length_filter_le _ c
theorem sm_cut {R : List (List Int)} (h : Sm R) (l : Int) : Sm (R.filterMap (cutM l)) := h.sub (List.length_filterMap_le _ R) fun d hd => by
  obtain ⟨c, hc, e⟩ := List.mem_filterMap.mp hd
  exact Nat.le_trans (cut_len e) (h.2 c hc)
theorem sm_res {R : List (List Int)} (h : Sm R) : Sm (resM R) := h.sub (len_resM R) fun d hd => h.2 d (mem_resM.mp hd)
theorem sm_given {R : List (List Int)} (h : Sm R) (l : Int) : Sm (givenM R l) := sm_res (sm_cut h l)
def spUnd : Sp := fun vs H Q _ => ∃ (v : V) (l : Int) (R : List (List Int)), vs = [v, .int l] ∧ TkR H v R ∧ Sm R ∧ ∀ v H', Ex H H' → TkR H' v (givenM R l) → Q v H'
section
variable {P : Program} {w : World} {K : PySem.W.Frag} {mg : Str → Option Value} {base : Heap}
theorem sp_res {cs : List (List Int)} {v : V} {H : Hp} (h : ClsP cs H v) (h1 : cs.length ≤ 60) (h2 : ∀ c ∈ cs, c.length ≤ 1000) : SpP spRes [v] H (fun H v => TkR H v (resM cs)) := fun H1 e Q q E => ⟨v, cs, rfl, h.mono e, h1, h2, q⟩
theorem sp_resS {cs : List (List Int)} {v : V} {H : Hp} (h : ClsP cs H v) (hs : Sm cs) : SpP spRes [v] H (fun H v => TkR H v (resM cs)) := sp_res h (Nat.le_trans hs.1 (by decide)) fun c hc => Nat.le_trans (hs.2 c hc) (by decide)
theorem sp_und {R : List (List Int)} {l : Int} {v : V} {H : Hp} (h : TkR H v R) (hs : Sm R) : SpP spUnd [v, .int l] H (fun H v => TkR H v (givenM R l)) := fun H1 e Q q E => ⟨v, l, R, rfl, h.mono (ExT.of e), hs, q⟩
abbrev sUnder : Stmt := top 5
theorem scUnder : FnScope ["residue", "literal", "rows", "clause", "item"] ["residue", "literal"] (defScope sUnder) := ⟨rfl, rfl, rfl, by decide +kernel, rfl, by decide +kernel, by decide +kernel⟩
theorem fm_filt {α : Type} (p : α → Bool) (xs : List α) : xs.filterMap (fun x => if p x = true then some x else none) = xs.filter p := by
  induction xs with
  | nil => rfl
  | cons x xs ih => cases h : p x <;> simp [h, ih]
theorem is_som {α : Type} (p : Bool) (x : α) : (if p = true then some x else none).isSome = p := by cases p <;> rfl
theorem of_som {α : Type} {p : Bool} {x y : α} (h : (if p = true then some x else none) = some y) : p = true ∧ x = y := by
  cases p with
  | true => exact ⟨rfl, Option.some.inj h⟩
  | false => cases h
theorem ep_filt {σ : L2.St} {H : Hp} {b : Addr} {i j k : Nat} {vs : List Nat} {l : Int} {c : List Int} (hb : H b = some (.tup (c.map V.int))) (h1 : σ[i]? = some (some (.ref b))) (hl : c.length ≤ 1000) (hw : ∀ x, wipe ((wipe σ vs).set j (some x)) vs = wipe σ vs)
    (hj : ∀ x : V, ((wipe σ vs).set j (some x))[j]? = some (some x)) (hk : ∀ x : V, ((wipe σ vs).set j (some x))[k]? = some (some (.int l))) :
    EvP (tLc (iTup K (tVar i)) (gName j) (tTest (tOp rNe (tVar j) (tUn (rU fun i => .int (-i)) (tVar k)))) (tVar j) vs) σ H (LsP (fun n _ y => y = V.int n) (c.filter fun x => decide (x ≠ -l))) := by
  rw [← fm_filt]
  refine ep_lcT (K := K) (P0 := fun y n => y = V.int n) (xs := c.map V.int) (as := c) (Pb := fun n _ y => y = V.int n) (fun x => if decide (x ≠ -l) = true then some x else none) stb_int (ep_of (ev_var h1) fun H1 e => ⟨b, rfl, st_of (e b _ hb)⟩) (ints_paired c) (by rw [List.length_map]; omega) hw (fun x n H1 e hx _ => ?_) fun x n m H1 e hx _ hf => ?_
  · subst hx
    show EvT _ _ _ (if decide (n ≠ -l) = true then some n else none).isSome
    rw [is_som, ← ne_int]
    exact et_test (ev_op (ev_var (hj _)) (ev_un (ev_var (hk _)) ru_neg) (rv_ne rfl))
  · subst hx
    obtain ⟨_, rfl⟩ := of_som hf
    exact ep_of (ev_var (hj _)) fun _ _ => rfl
theorem ok_under {f f1 : Addr} {fd fd1 : FuncData} {k : Nat} (F : FnP K "under" sUnder f fd) (bi : Bi mg) (RS : Fn P w K mg base "residue_of" (k + 5) f1 fd1 ["clauses"] spRes) : FnOk P w K mg base CX0 (k + 6) f fd ["residue", "literal"] spUnd := by
  refine F.ok scUnder (fun vs H Q E h => ?_) (fun cdv A outer s H vs Q E hr h => ?_)
  · obtain ⟨v, l, c, rfl, _⟩ := h
    rfl
  · obtain ⟨v, l, R, rfl, hR, hs, q⟩ := h
    obtain ⟨a, ys, rfl, ha, pr⟩ := hR
    refine ⟨_, PSs.nox (pss_cons (ps_set (i := 2) scUnder.nd rfl (.inl rfl) (pe_lst pa_nil))
      (pss_cons (ps_for PassesOwn.never rfl (pi_tup (pv 0)) (pg_name (i := 3) scUnder.nd rfl (.inl rfl))
        (pss_one (ps_if (pt_cmpR op_notIn_seq (pv 1) (pv 3) (by rfl))
          (pss_one (ps_if (pt_cmpR op_in_seq (pe_un un_neg (pv 1)) (pv 3) (by rfl))
            (pss_one (ps_expr (pe_bm PySem.F.plainAttrs_list PySem.F.slot_list_append PySem.F.type_list_append mt_append (pv 2) (pa_cons (pe_callTy call_tuple_of (by rfl) bi.tuple (by decide +kernel) (pa_cons
              (pe_lc (own := [("item", 4)]) (g := gName 4) rfl scUnder.nd (pi_tup (pv 3)) (blkOk_by (N := ["residue", "literal", "rows", "clause", "item"]) (sc := defScope sUnder) (by decide +kernel))
                (fun _ _ _ _ _ => pg_name (i := 4) scUnder.nd rfl (Or.inl rfl)) (fun _ _ _ _ _ => pts_one (pt_cmpR op_ne (pv 4) (pe_un un_neg (pv 1)) (nomark _))) (fun _ _ _ _ _ => pv 4)) pa_nil)) pa_nil))))
            (pss_one (ps_expr (pe_bm PySem.F.plainAttrs_list PySem.F.slot_list_append PySem.F.type_list_append mt_append (pv 2) (pa_cons (pv 3) pa_nil))))))
          pss_nil)))
      (pss_one (ps_ret (RS.pe hr (by rfl) (pa_cons (pv 2) pa_nil)))))), ?_⟩
    refine q_asgL (el_lst ea_nil (by decide)) fun r H1 nr e1 hr1 => ?_
    refine q_forT (K := K) (a := a) (xs := ys) (ev_var (i := 0) rfl) (st_of (e1 a _ ha)) (fun i σ' H' => (∃ y3, σ' = [some (.ref a), some (.int l), some (.ref r), y3, none]) ∧ Lcw H (fun c H y => TkL H y c) (cutM l) R r i H')
      (fun H2 e2 => ⟨⟨none, rfl⟩, lcw_start (e1.trans e2) nr (e2 r _ hr1)⟩) (fun i σ' H' _ p => st_of (lcw_ex p.2 a _ ha)) (fun i x σ' H' hi p => ?_) fun σ' H' p => ?_
    · obtain ⟨⟨y3, rfl⟩, w⟩ := p
      obtain ⟨c, hc, b, rfl, hb⟩ := paired_get pr hi
      have hcl := hs.2 c (List.mem_of_getElem? hc)
      have hi5 := (List.getElem?_eq_some_iff.mp hc).1
      have hR := hs.1
      have hb' := lcw_ex w b _ hb
      obtain ⟨zs, hz, hzl⟩ := lcw_get w
      refine s_when (b := !decide (l ∈ c)) (et_test (ev_op (ev_var (i := 1) (v := .int l) rfl) (ev_var (i := 3) (v := .ref b) rfl) (rv_niI hb'))) (fun hn H2 e2 => ?_) fun hn H2 e2 => ?_
      · have hn' : ¬ l ∈ c := fun z => by
          rw [decide_eq_true z] at hn
          cases hn
        refine s_if (b := decide (-l ∈ c)) (et_test (ev_op (ev_un (ev_var (i := 1) (v := .int l) rfl) ru_neg) (ev_var (i := 3) (v := .ref b) rfl) (rv_inI (e2 b _ hb')))) (fun hm H3 e3 => ?_) fun hm H3 e3 => ?_
        · refine p_app (K := K) (P := fun H y => TkL H y (c.filter fun x => decide (x ≠ -l))) ((e2.trans e3) r _ hz) (ev_var (i := 2) rfl) (ep_imp (ep_tuple stb_int (ep_filt ((e2.trans e3) b _ hb') (i := 3) rfl (by omega) (fun _ => rfl) (fun _ => rfl) fun _ => rfl)) fun w H1 _ h => h.ints) (by omega) fun v H4 e4 hv => ⟨⟨_, rfl⟩, ?_⟩
          exact lcw_app stb_tk w hc (by unfold cutM; rw [if_neg hn']) hz ((e2.trans e3).trans e4) hv
        · refine p_app (K := K) (P := fun H y => TkL H y c) ((e2.trans e3) r _ hz) (ev_var (i := 2) rfl) (ep_of (ev_var (i := 3) (v := .ref b) rfl) fun H4 e4 => ⟨b, rfl, (((e2.trans e3)).trans e4) b _ hb'⟩) (by omega) fun v H4 e4 hv => ⟨⟨_, rfl⟩, ?_⟩
          exact lcw_app stb_tk w hc (cutM_keep hn' (of_decide_eq_false hm)) hz ((e2.trans e3).trans e4) hv
      · have hn' : l ∈ c := Classical.byContradiction fun z => by
          rw [decide_eq_false z] at hn
          cases hn
        exact ⟨⟨_, rfl⟩, lcw_skip stb_tk w hc (by unfold cutM; rw [if_pos hn']) e2⟩
    · obtain ⟨⟨y3, rfl⟩, w⟩ := p
      rw [Paired.length pr] at w
      have w2 : ClsP (R.filterMap (cutM l)) H' (.ref r) := lcw_end w
      exact p_ret (P := fun H v => TkR H v (givenM R l)) (ep_call (ep_a1 (ep_of (P := ClsP (R.filterMap (cutM l))) (ev_var (i := 2) rfl) fun H2 e2 => w2.mono e2)) fun vs H2 e2 hv => by
        obtain ⟨z, rfl, hz⟩ := hv
        exact sp_resS hz (sm_cut hs l)) fun v H2 e2 h2 => q v H2 ((lcw_ex w).trans e2) h2
end
end Cw

set_option Elab.async false
set_option linter.all false
set_option maxRecDepth 100000
set_option maxHeartbeats 2000000
/-! units, has_empty, propagate. -/
namespace Cw
open PySem PySem.Spec PyProof.Rows L2 Evl

theorem atI_nat {α : Type} {xs : List α} {j : Nat} {x : α} (h : xs[j]? = some x) : atI xs (j : Int) = some x := by
  have hj := (List.getElem?_eq_some_iff.mp h).1
  unfold atI
  rw [ixN_nat hj]
  exact h
theorem atI_head {α : Type} {x : α} {xs : List α} : atI (x :: xs) 0 = some x := atI_nat (j := 0) rfl
theorem ints_head {c : List Int} {n : Int} (h : c.head? = some n) : atI (c.map V.int) 0 = some (V.int n) := by
  cases c with
  | nil => cases h
  | cons m c =>
    cases h
    exact atI_head
theorem one_some (c : List Int) : (oneM c).isSome = decide (c.length = 1) := by
  unfold oneM
  by_cases h : c.length = 1
  · rw [if_pos h, decide_eq_true h]
    cases c with
    | nil => cases h
    | cons n c => rfl
  · rw [if_neg h, decide_eq_false h]
    rfl
theorem one_of {c : List Int} {n : Int} (h : oneM c = some n) : c.head? = some n := by
  unfold oneM at h
  split at h
  · exact h
  · cases h
theorem len_int (n m : Nat) : decide (V.int (n : Int) = V.int (m : Int)) = decide (n = m) := by
  rw [eq_int]
  exact decide_eq_decide.mpr ⟨Int.ofNat.inj, congrArg _⟩
def spUn : Sp := fun vs H Q _ => ∃ (v : V) (R : List (List Int)), vs = [v] ∧ TkR H v R ∧ Sm R ∧ ∀ v H', Ex H H' → TkL H' v (unitsM R) → Q v H'
def spHas : Sp := fun vs H Q _ => ∃ (v : V) (R : List (List Int)), vs = [v] ∧ TkR H v R ∧ Sm R ∧ ∀ H', Ex H H' → Q (.bl (decide ([] ∈ R))) H'
section
variable {P : Program} {w : World} {K : PySem.W.Frag} {mg : Str → Option Value} {base : Heap}
theorem sp_un {R : List (List Int)} {v : V} {H : Hp} (h : TkR H v R) (hs : Sm R) : SpP spUn [v] H (fun H v => TkL H v (unitsM R)) := fun H1 e Q q E => ⟨v, R, rfl, h.mono (ExT.of e), hs, q⟩
theorem sp_has {R : List (List Int)} {v : V} {H : Hp} (h : TkR H v R) (hs : Sm R) : SpP spHas [v] H (fun _ z => z = .bl (decide ([] ∈ R))) := fun H1 e Q q E => ⟨v, R, rfl, h.mono (ExT.of e), hs, fun H' e' => q _ H' e' rfl⟩
/-- [c[0] for c in R if len(c) == 1] -/
theorem ep_ones {σ : L2.St} {H : Hp} {a : Addr} {i j : Nat} {vs : List Nat} {R : List (List Int)} (hR : TkR H (.ref a) R) (h1 : σ[i]? = some (some (.ref a))) (hl : R.length ≤ 1000) (hw : ∀ x, wipe ((wipe σ vs).set j (some x)) vs = wipe σ vs)
    (hj : ∀ x : V, ((wipe σ vs).set j (some x))[j]? = some (some x)) :
    EvP (tLc (iTup K (tVar i)) (gName j) (tTest (tOp rEq (tCB (rLenS K) (tCons (tVar j) tNil)) (tC (.int 1)))) (tOp (rIxT K) (tVar j) (tC (.int 0))) vs) σ H (LsP (fun n _ y => y = V.int n) (R.filterMap oneM)) := by
  obtain ⟨a', ys, ea, ha, pr⟩ := hR
  cases ea
  refine ep_lcT (K := K) (P0 := TkL H) (xs := ys) (as := R) (Pb := fun n _ y => y = V.int n) oneM stb_int (ep_of (ev_var h1) fun H1 e => ⟨a, rfl, st_of (e a _ ha)⟩) pr (by rw [Paired.length pr]; omega) hw (fun x c H1 e hx _ => ?_) fun x c m H1 e hx _ hf => ?_
  · obtain ⟨b, rfl, hb⟩ := hx
    rw [one_some]
    have e1 : decide (V.int ((c.map V.int).length : Int) = V.int 1) = decide (c.length = 1) := by
      rw [List.length_map]
      exact len_int c.length 1
    rw [← e1]
    refine et_test (ev_op (ev_cb (ea_cons (ev_var (hj _)) ea_nil) (z := .int ((c.map V.int).length : Int)) fun H2 e2 Q q => ⟨b, _, rfl, .inr (st_of (e2 b _ (e b _ hb))), q H2 (Ex.refl H2)⟩) ev_c (rv_eq rfl))
  · obtain ⟨b, rfl, hb⟩ := hx
    exact ep_of (ev_op (ev_var (hj _)) ev_c (rv_ixT (st_of (e b _ hb)) (ints_head (one_of hf)))) fun _ _ => rfl
abbrev sUnits : Stmt := top 8
abbrev sHas : Stmt := top 9
abbrev sProp : Stmt := top 10
theorem scUnits : FnScope ["residue", "found", "clause"] ["residue"] (defScope sUnits) := ⟨rfl, rfl, rfl, by decide +kernel, rfl, by decide +kernel, by decide +kernel⟩
theorem ok_units {f f1 : Addr} {fd fd1 : FuncData} {k : Nat} (F : FnP K "units" sUnits f fd) (bi : Bi mg) (LK : Fn P w K mg base "literal_key" (k + 1) f1 fd1 ["literal"] spLK) : FnOk P w K mg base CX0 (k + 4) f fd ["residue"] spUn := by
  refine F.ok scUnits (fun vs H Q E h => ?_) (fun cdv A outer s H vs Q E hr h => ?_)
  · obtain ⟨v, c, rfl, _⟩ := h
    rfl
  · obtain ⟨v, R, rfl, hR, hs, q⟩ := h
    have hR' := hR
    obtain ⟨a, ys, rfl, ha, pr⟩ := hR'
    refine ⟨_, PSs.nox (pss_cons (ps_setLc (i := 1) (own := [("clause", 2)]) (g := gName 2) rfl scUnits.nd rfl (by rfl) (sw_true rfl rfl rfl (by decide +kernel)) (pi_tup (pv 0)) (blkOk_by (N := ["residue", "found", "clause"]) (sc := defScope sUnits) (by decide +kernel))
        (fun _ _ _ _ _ => pg_name (i := 2) scUnits.nd rfl (Or.inl rfl)) (fun _ _ _ _ _ => pts_one (pt_cmpR op_eq (pe_callB (id := "len") (r := rLenS K) call_len_seq (by rfl) bi.len (by decide +kernel) (pa_cons (pv 2) pa_nil)) pe_int (nomark _))) (fun _ _ _ _ _ => pe_ix (r := rIxT K) ix_tup (pv 2) pe_int (fun _ _ => rfl)))
      (pss_one (ps_ret (pe_callTy call_tuple_of (by rfl) bi.tuple (by decide +kernel) (pa_cons (pe_callBK (cr_sortedF LK.ok hr LK.b) (by rfl) bi.sorted (by decide +kernel) (pa_cons (pv 1) pa_nil) (pk_cons (LK.glob (by rfl)) pk_nil)) pa_nil))))), ?_⟩
    refine p_asgS (P := LsP (fun n _ y => y = V.int n) (R.filterMap oneM)) (ep_ones (a := a) (i := 0) (j := 2) hR rfl (Nat.le_trans hs.1 (by decide)) (fun _ => rfl) fun _ => rfl) fun d H1 e hd => ?_
    obtain ⟨p, zs, rfl, hp, prz⟩ := hd
    refine p_ret (P := fun H v => TkL H v (unitsM R)) (ep_imp (ep_tuple (Pb := fun n _ y => y = V.int n) (bs := unitsM R) stb_int (ep_ckw (ep_a1 (ep_of (P := LsP (fun n _ y => y = V.int n) (R.filterMap oneM)) (ev_var (i := 1) rfl) fun H2 e2 => ⟨p, zs, rfl, e2 p _ hp, prz⟩)) fun vs H2 e2 hv => ?_)) fun w H1 _ h => h.ints) fun v H2 e2 h2 => q v H2 (e.trans e2) h2
    obtain ⟨z, rfl, hz⟩ := hv
    exact rc_srt stb_int hz ko_lk
theorem scHas : FnScope ["residue"] ["residue"] (defScope sHas) := ⟨rfl, rfl, rfl, by decide +kernel, rfl, by decide +kernel, by decide +kernel⟩
theorem any_mem (c : List Int) (R : List (List Int)) : ((R.map dI).any fun z => PyData.eqv z (dI c)) = decide (c ∈ R) := by
  rw [List.any_map]
  induction R with
  | nil => rfl
  | cons d R ih =>
    rw [List.any_cons, ih]
    show (PyData.eqv (dI d) (dI c) || decide (c ∈ R)) = _
    rw [eqv_I, ← Bool.decide_or]
    exact decide_eq_decide.mpr (by rw [List.mem_cons]; exact ⟨fun h => h.imp Eq.symm id, fun h => h.imp Eq.symm id⟩)
theorem rv_inR {x v : V} {c : List Int} {R : List (List Int)} {H : Hp} (hx : TkL H x c) (hv : TkR H v R) : RvP (rInT K false) x v H (fun _ z => z = .bl (decide (c ∈ R))) := fun Q q => by
  refine ⟨dI c, R.map dI, hx.dp, hv.dp, shaped_I c, shaped_R R, ?_⟩
  rw [any_mem]
  exact q _ H (Ex.refl H) rfl
theorem rv_niR {x v : V} {c : List Int} {R : List (List Int)} {H : Hp} (hx : TkL H x c) (hv : TkR H v R) : RvP (rInT K true) x v H (fun _ z => z = .bl (!decide (c ∈ R))) := fun Q q => by
  refine ⟨dI c, R.map dI, hx.dp, hv.dp, shaped_I c, shaped_R R, ?_⟩
  rw [any_mem]
  exact q _ H (Ex.refl H) rfl
theorem ep_nil {σ : L2.St} {H : Hp} : EvP (tTup tNil) σ H (fun H v => TkL H v []) :=
  ep_tup (PA := fun _ vs => vs = []) (fun H1 e Q q => q [] H1 (Ex.refl H1) rfl) (fun vs H1 hv => by rw [hv]; exact Nat.zero_le _) fun vs H1 p e hv np => ⟨p, rfl, by rw [upd_same, hv]; rfl⟩
theorem ok_has {f : Addr} {fd : FuncData} {k : Nat} (F : FnP K "has_empty" sHas f fd) : FnOk P w K mg base CX0 (k + 1) f fd ["residue"] spHas := by
  refine F.ok scHas (fun vs H Q E h => ?_) (fun cdv A outer s H vs Q E hr h => ?_)
  · obtain ⟨v, c, rfl, _⟩ := h
    rfl
  · obtain ⟨v, R, rfl, hR, hs, q⟩ := h
    refine ⟨_, PSs.nox (pss_one (ps_ret (pe_cmpR (op_inT (ru65 hr)) (pe_tup pa_nil) (pv 0) (by rfl)))), ?_⟩
    exact p_ret (P := fun _ z => z = .bl (decide ([] ∈ R))) (ep_op (P1 := fun H v => TkL H v []) (P2 := fun H v => TkR H v R) ep_nil (stb_L _).mo (fun w H1 e _ => ep_of (ev_var (v := v) rfl) fun H2 e2 => hR.mono (ExT.of (e.trans e2))) fun w w' H1 e h1 h2 => rv_inR h1 h2) fun z H1 e hz => by
      rw [hz]
      exact q H1 e
/-! ### propagate -/
theorem sm_fold {R : List (List Int)} (h : Sm R) (ls : List Int) : Sm (ls.foldl givenM R) := by
  induction ls generalizing R with
  | nil => exact h
  | cons l ls ih => exact ih (sm_given h l)
theorem fold_next {R : List (List Int)} {ls : List Int} {i : Nat} {l : Int} (h : ls[i]? = some l) : (ls.take (i + 1)).foldl givenM R = givenM ((ls.take i).foldl givenM R) l := by
  rw [List.take_add_one, h, List.foldl_append]
  rfl
def dProp (R : List (List Int)) (ls : List Int) : PyData := .tuple [dR (propF (ls.foldl givenM R) []).1, .list ((propF (ls.foldl givenM R) []).2.map .int)]
def spProp (K : PySem.W.Frag) : Sp := fun vs H Q _ => ∃ (v : V) (p : Addr) (R : List (List Int)) (ls : List Int), vs = [v, .ref p] ∧ TkR H v R ∧ Sm R ∧ H p = some (.lst (ls.map V.int)) ∧ ∀ v H', Ex H H' → Dp K H' v (dProp R ls) → Q v H'
theorem scProp : FnScope ["residue", "literals", "literal", "found", "row"] ["residue", "literals"] (defScope sProp) := ⟨rfl, rfl, rfl, by decide +kernel, rfl, by decide +kernel, by decide +kernel⟩
/-- the pair that propagate gives -/
theorem dp_pair {H : Hp} {r p t : Addr} {R : List (List Int)} {f : List Int} (h1 : Dp K H (.ref r) (dR R)) (h2 : H p = some (.lst (f.map V.int))) (nt : H t = none) : Dp K (upd H t (.tup [.ref r, .ref p])) (.ref t) (.tuple [dR R, .list (f.map .int)]) :=
  .tup (st_of upd_same) (.cons (dp_mono (Ex.new nt) _ _ h1) (.cons (.lst (sq_of (Ex.new nt p _ h2)) (dp_ints f)) .nil))
theorem ok_prop {f f1 f2 f3 : Addr} {fd fd1 fd2 fd3 : FuncData} {k : Nat} (F : FnP K "propagate" sProp f fd) (UN : Fn P w K mg base "under" (k + 6) f1 fd1 ["residue", "literal"] spUnd) (US : Fn P w K mg base "units" (k + 4) f2 fd2 ["residue"] spUn)
    (HS : Fn P w K mg base "has_empty" (k + 1) f3 fd3 ["residue"] spHas) (em : ∃ e, mg "EMPTY" = some (.ref e) ∧ ∀ H, Dp K H (.ref e) (dR [[]])) : FnOk P w K mg base CX0 (k + 7) f fd ["residue", "literals"] (spProp K) := by
  refine F.ok scProp (fun vs H Q E h => ?_) (fun cdv A outer s H vs Q E hr h => ?_)
  · obtain ⟨v, c, _, _, rfl, _⟩ := h
    rfl
  · obtain ⟨v, pl, R, ls, rfl, hR, hs, hls, q⟩ := h
    obtain ⟨em, gE, dE⟩ := em
    refine ⟨_, PSs.nox (pss_cons (ps_for PassesOwn.never rfl (pi_list (pv 1)) (pg_name (i := 2) scProp.nd rfl (.inl rfl))
        (pss_one (ps_set (i := 0) scProp.nd rfl (.inl rfl) (UN.pe hr (by rfl) (pa_cons (pv 0) (pa_cons (pv 2) pa_nil))))))
      (pss_cons (ps_set (i := 3) scProp.nd rfl (.inl rfl) (pe_lst pa_nil))
      (pss_cons (ps_while PassesOwn.never (pt_not (pt_val (HS.pe (hr.mono (by omega)) (by rfl) (pa_cons (pv 0) pa_nil))))
        (pss_cons (ps_set (i := 4) scProp.nd rfl (.inl rfl) (US.pe (hr.mono (by omega)) (by rfl) (pa_cons (pv 0) pa_nil)))
        (pss_cons (ps_if (pt_cmpR (op_eqD hr.units) (pv 4) (pe_tup pa_nil) (nomark _)) (pss_one (ps_ret (pe_tup (pa_cons (pv 0) (pa_cons (pv 3) pa_nil))))) pss_nil)
        (pss_cons (ps_expr (pe_bm PySem.F.plainAttrs_list PySem.F.slot_list_append PySem.F.type_list_append mt_append (pv 3) (pa_cons (pe_ix ix_tup (pv 4) pe_int (fun _ _ => rfl)) pa_nil)))
        (pss_one (ps_set (i := 0) scProp.nd rfl (.inl rfl) (UN.pe hr (by rfl) (pa_cons (pv 0) (pa_cons (pe_ix ix_tup (pv 4) pe_int (fun _ _ => rfl)) pa_nil)))))))))
      (pss_one (ps_ret (pe_tup (pa_cons (pe_glob (v := .ref em) (by rfl) gE rfl) (pa_cons (pv 3) pa_nil)))))))), ?_⟩
    refine q_forL (K := K) (a := pl) (xs := ls.map V.int) (ev_var (i := 1) rfl) (sq_of hls) (fun i σ' H' => ∃ r y2, σ' = [some r, some (.ref pl), y2, none, none] ∧ Ex H H' ∧ TkR H' r ((ls.take i).foldl givenM R))
      (fun H1 e => ⟨v, none, rfl, e, hR.mono (ExT.of e)⟩) (fun i σ' H' _ p => by
        obtain ⟨r, y2, _, e, _⟩ := p
        exact sq_of (e pl _ hls)) (fun i x σ' H' hi p => ?_) fun σ' H' p => ?_
    · obtain ⟨r, y2, rfl, e, hr1⟩ := p
      obtain ⟨l, hl, rfl⟩ : ∃ l, ls[i]? = some l ∧ x = .int l := by
        rw [List.getElem?_map] at hi
        cases hcj : ls[i]? with
        | none => rw [hcj] at hi; cases hi
        | some l => rw [hcj] at hi; exact ⟨l, rfl, (Option.some.inj hi).symm⟩
      refine p_asg (P := fun H v => TkR H v ((ls.take (i + 1)).foldl givenM R)) (ep_call (ep_a2 (P1 := fun H v => TkR H v ((ls.take i).foldl givenM R)) (P2 := fun _ z => z = .int l) (ep_of (ev_var (i := 0) (v := r) rfl) fun H2 e2 => hr1.mono (ExT.of e2)) (stb_R _).mo fun w H1 e1 h1 => ep_of (ev_var (i := 2) (v := .int l) rfl) fun _ _ => rfl) fun vs H1 e1 hv => ?_) fun v H1 e1 hv => ⟨v, _, rfl, e.trans e1, hv⟩
      obtain ⟨z, z', rfl, hz, rfl⟩ := hv
      rw [fold_next hl]
      exact sp_und hz (sm_fold hs _)
    · obtain ⟨r, y2, rfl, e, hr1⟩ := p
      rw [List.length_map, List.take_length] at hr1
      refine q_asgL (el_lst ea_nil (by decide)) fun p H1 np e1 hp => ?_
      have hr1 := hr1.mono (ExT.of e1)
      have e1 := e.trans e1
      have np : H p = none := fresh_back e np
      refine q_while (fun m σ' H' => ∃ r y2 y4 S f, σ' = [some r, some (.ref pl), y2, some (.ref p), y4] ∧ Ex H H' ∧ TkR H' r S ∧ Sm S ∧ S.length = m ∧ H' p = some (.lst (f.map V.int)) ∧ f.length + m ≤ 15 ∧ propF S f = propF (ls.foldl givenM R) []) (ls.foldl givenM R).length
        ⟨r, y2, none, _, [], rfl, e1, hr1, sm_fold hs _, rfl, hp, by have := (sm_fold hs ls).1; simpa using this, rfl⟩ fun m σ' H' p => ?_
      · obtain ⟨r, y2, y4, S, f, rfl, e, hS, sS, rfl, hp, hl, eq⟩ := p
        refine ⟨!decide ([] ∈ S), et_not (et_B (ev_of (ep_call (ep_a1 (ep_of (P := fun H v => TkR H v S) (ev_var (i := 0) (v := r) rfl) fun H2 e2 => hS.mono (ExT.of e2))) fun vs H2 e2 hv => by
          obtain ⟨z, rfl, hz⟩ := hv
          exact sp_has hz sS))), fun hb H1 e1 => ?_, fun hb H1 e1 => ?_⟩
        · have hb' : ¬ [] ∈ S := fun z => by
            rw [decide_eq_true z] at hb
            cases hb
          refine ⟨_, fun σ2 H2 h => h, ?_⟩
          refine p_asgS (P := fun H v => TkL H v (unitsM S)) (ep_call (ep_a1 (ep_of (P := fun H v => TkR H v S) (ev_var (i := 0) (v := r) rfl) fun H2 e2 => hS.mono (ExT.of (e1.trans e2)))) fun vs H2 e2 hv => by
            obtain ⟨z, rfl, hz⟩ := hv
            exact sp_un hz sS) fun u H2 e2 hu => ?_
          have e12 := e1.trans e2
          refine q_when (b := decide (unitsM S = [])) (et_op (P1 := fun H v => TkL H v (unitsM S)) (P2 := fun H v => TkL H v []) (ep_of (ev_var (i := 4) (v := u) rfl) fun H3 e3 => hu.mono (ExT.of e3)) (stb_L _).mo (fun _ _ _ _ => ep_nil) fun z z' H3 e3 h1 h2 Q q => ?_) (fun hm H3 e3 => ?_) fun hm H3 e3 => ?_
          · refine ⟨dI (unitsM S), dI [], h1.dp, h2.dp, shaped_I _, shaped_I _, ?_⟩
            rw [eqv_I]
            exact q _ H3 (Ex.refl H3) rfl
          · have hm' := of_decide_eq_true hm
            have e13 := e12.trans e3
            have hS3 := hS.mono (ExT.of e13)
            obtain ⟨ra, ys, rfl, hra, pr⟩ := hS
            refine p_ret (P := fun H v => Dp K H v (dProp R ls)) (ep_tup (PA := fun _ vs => vs = [.ref ra, .ref p]) (fun H4 e4 Q q => ea_cons (ev_var (i := 0) rfl) (ea_cons (ev_var (i := 3) rfl) ea_nil) H4 e4 Q fun H5 e5 => q _ H5 e5 rfl) (fun vs _ hv => by rw [hv]; show 2 ≤ 100000; decide) fun vs H4 t e4 hv nt => ?_) fun v H4 e4 h4 => q v H4 ((e.trans e13).trans e4) h4
            subst hv
            have h := dp_pair (K := K) (t := t) ((hS3.mono (ExT.of e4)).dp) ((e13.trans e4) p _ hp) nt
            unfold dProp
            rw [← eq, propF_end f hb' hm']
            exact h
          · obtain ⟨x, t, ext⟩ : ∃ x t, unitsM S = x :: t := by
              cases hc : unitsM S with
              | nil => rw [hc] at hm; cases hm
              | cons x t => exact ⟨x, t, rfl⟩
            have hx := givenM_lt (R := S) (x := x) (by rw [ext]; exact List.mem_cons_self)
            obtain ⟨ua, rfl, hua⟩ := hu
            have hat : atI ((unitsM S).map V.int) 0 = some (V.int x) := by
              rw [ext]
              exact atI_head
            refine p_appS (K := K) (P := fun _ z => z = .int x) ((e12.trans e3) p _ hp) (ev_var (i := 3) rfl) (ep_of (ev_op (ev_var (i := 4) (v := .ref ua) rfl) ev_c (rv_ixT (st_of (e3 ua _ hua)) hat)) fun _ _ => rfl) (by rw [List.length_map]; omega) fun z H4 e4 hz => ?_
            subst hz
            have np4 : Ex H (upd H4 p (.lst (f.map V.int ++ [V.int x]))) := Ex.mut (((e.trans e12).trans e3).trans e4) np
            have x4 : ExT H' (upd H4 p (.lst (f.map V.int ++ [V.int x]))) := (ExT.of ((e12.trans e3).trans e4)).trans (ExT.lst (((e12.trans e3).trans e4) p _ hp))
            have hua4 : (upd H4 p (.lst (f.map V.int ++ [V.int x]))) ua = some (.tup ((unitsM S).map V.int)) := ((ExT.of (e3.trans e4)).trans (ExT.lst (((e12.trans e3).trans e4) p _ hp))) ua _ hua
            refine p_asg (P := fun H v => TkR H v (givenM S x)) (ep_call (ep_a2 (P1 := fun H v => TkR H v S) (P2 := fun _ z => z = .int x) (ep_of (ev_var (i := 0) (v := r) rfl) fun H2 e2 => (hS.mono x4).mono (ExT.of e2)) (stb_R _).mo fun w H1 e1 h1 => ep_of (ev_op (ev_var (i := 4) (v := .ref ua) rfl) ev_c (rv_ixT (st_of (e1 ua _ hua4)) hat)) fun _ _ => rfl) fun vs H1 e1 hv => ?_) fun v H5 e5 hv => ?_
            · obtain ⟨z, z', rfl, hz, rfl⟩ := hv
              exact sp_und hz sS
            · refine ⟨(givenM S x).length, hx, v, y2, _, givenM S x, f ++ [x], rfl, np4.trans e5, hv, sm_given sS x, rfl, ?_, ?_, ?_⟩
              · rw [List.map_append]
                exact e5 p _ upd_same
              · rw [List.length_append]
                show f.length + 1 + _ ≤ _
                omega
              · rw [← eq, propF_step f hb' ext]
        · have hb' : [] ∈ S := Classical.byContradiction fun z => by
            rw [decide_eq_false z] at hb
            cases hb
          refine p_ret (P := fun H v => Dp K H v (dProp R ls)) (ep_tup (PA := fun _ vs => vs = [.ref em, .ref p]) (fun H4 e4 Q q => ea_cons ev_c (ea_cons (ev_var (i := 3) rfl) ea_nil) H4 e4 Q fun H5 e5 => q _ H5 e5 rfl) (fun vs _ hv => by rw [hv]; show 2 ≤ 100000; decide) fun vs H4 t e4 hv nt => ?_) fun v H4 e4 h4 => q v H4 ((e.trans e1).trans e4) h4
          subst hv
          have h := dp_pair (K := K) (t := t) (dE H4) ((e1.trans e4) p _ hp) nt
          unfold dProp
          rw [← eq, propF_bad f hb']
          exact h
end
end Cw

set_option Elab.async false
set_option linter.all false
set_option maxRecDepth 100000
set_option maxHeartbeats 2000000
/-! is_within, lessened, shown_of. -/
namespace Cw
open PySem PySem.Spec PyProof.Rows L2 Evl

theorem stb_bl (b : Bool) : Stb (fun _ y => y = V.bl b) := stb_eq _
theorem paired_bls : ∀ {ys : List V} {bs : List Bool}, Paired (fun y b => y = V.bl b) ys bs → ys = bs.map V.bl
  | _, _, .nil => rfl
  | _, _, .cons h t => by
    rw [h, paired_bls t]
    rfl
def spWi : Sp := fun vs H Q _ => ∃ (v u : V) (o c : List Int), vs = [v, u] ∧ TkL H v o ∧ TkL H u c ∧ o.length ≤ 1000 ∧ c.length ≤ 1000 ∧ ∀ H', Ex H H' → Q (.bl (decide (o.length ≤ c.length) && withinM o c)) H'
def spLess : Sp := fun vs H Q _ => ∃ (v : V) (R : List (List Int)), vs = [v] ∧ TkR H v R ∧ Sm R ∧ (∀ c ∈ R, c.Nodup) ∧ ∀ v H', Ex H H' → TkR H' v (lessM R) → Q v H'
def spShown : Sp := fun vs H Q _ => ∃ (p : Addr) (u x : V) (xs : List V) (sh : List Int) (R : List (List Int)), vs = [.ref p, u] ∧ H p = some (.tup (x :: xs)) ∧ TkL H x sh ∧ TkR H u R ∧ Sm R ∧
  ∀ v H', Ex H H' → TkL H' v ((varsM R).filter fun n => decide (n ∈ sh)) → Q v H'
section
variable {P : Program} {w : World} {K : PySem.W.Frag} {mg : Str → Option Value} {base : Heap}
theorem ev_lenT {σ : L2.St} {H : Hp} {te : TE} {a : Addr} {xs : List V} (h : Ev te σ H (.ref a)) (ha : H a = some (.tup xs)) : Ev (tCB (rLenS K) (tCons te tNil)) σ H (.int (xs.length : Int)) :=
  ev_cb (ea_cons h ea_nil) fun H2 e2 Q q => ⟨a, _, rfl, .inr (st_of (e2 a _ ha)), q H2 (Ex.refl H2)⟩
theorem rc_all {H : Hp} {v : V} {bs : List Bool} (h : LsP (fun b _ y => y = V.bl b) bs H v) : RcP (rAll K) [v] H (fun _ z => z = .bl (bs.all id)) := by
  obtain ⟨p, ys, rfl, hp, pr⟩ := h
  exact fun Q q => ⟨p, bs, rfl, by rw [← paired_bls pr]; exact sq_of hp, q _ H (Ex.refl H) rfl⟩
theorem rc_any {H : Hp} {v : V} {bs : List Bool} (h : LsP (fun b _ y => y = V.bl b) bs H v) : RcP (rAny K) [v] H (fun _ z => z = .bl (bs.any id)) := by
  obtain ⟨p, ys, rfl, hp, pr⟩ := h
  exact fun Q q => ⟨p, bs, rfl, by rw [← paired_bls pr]; exact sq_of hp, q _ H (Ex.refl H) rfl⟩
abbrev sWithin : Stmt := top 13
abbrev sLess : Stmt := top 14
abbrev sShown : Stmt := top 15
theorem scWi : FnScope ["first", "second", "literal"] ["first", "second"] (defScope sWithin) := ⟨rfl, rfl, rfl, by decide +kernel, rfl, by decide +kernel, by decide +kernel⟩
theorem ok_within {f : Addr} {fd : FuncData} {k : Nat} (F : FnP K "is_within" sWithin f fd) (bi : Bi mg) : FnOk P w K mg base CX0 (k + 1) f fd ["first", "second"] spWi := by
  refine F.ok scWi (fun vs H Q E h => ?_) (fun cdv A outer s H vs Q E hr h => ?_)
  · obtain ⟨v, c, _, _, rfl, _⟩ := h
    rfl
  · obtain ⟨v, u, o, c, rfl, hv, hu, lo, lc, q⟩ := h
    obtain ⟨a, rfl, ha⟩ := hv
    obtain ⟨b, rfl, hb⟩ := hu
    refine ⟨_, PSs.nox (pss_one (ps_ret (pe_and (pe_cmpR op_le (pe_callB (r := rLenS K) call_len_seq (by rfl) bi.len (by decide +kernel) (pa_cons (pv 0) pa_nil)) (pe_callB (r := rLenS K) call_len_seq (by rfl) bi.len (by decide +kernel) (pa_cons (pv 1) pa_nil)) (nomark _))
      (pe_one (pe_callB (cr_all rfl) (by rfl) bi.all (by decide +kernel) (pa_cons (pe_lc (own := [("literal", 2)]) (g := gName 2) rfl scWi.nd (pi_tup (pv 0)) (blkOk_by (N := ["first", "second", "literal"]) (sc := defScope sWithin) (by decide +kernel))
        (fun _ _ _ _ _ => pg_name (i := 2) scWi.nd rfl (Or.inl rfl)) (fun _ _ _ _ _ => pts_nil) (fun _ _ _ _ _ => pe_cmpR (r := rIn K false) op_in_seq (pv 2) (pv 1) (by rfl))) pa_nil)))))), ?_⟩
    refine p_ret (P := fun _ z => z = .bl (decide (o.length ≤ c.length) && withinM o c)) (ep_of (ev_andV (a := decide (o.length ≤ c.length)) (b := withinM o c) ?_ fun _ => ev_of (ep_cb (ep_a1 (P1 := LsP (fun b _ y => y = V.bl b) (o.map fun l => decide (l ∈ c))) ?_) fun vs H1 e hv => ?_)) fun _ _ => rfl) fun v H1 e h => by
      rw [h]
      exact q H1 e
    · refine ev_is (ev_op (ev_lenT (ev_var rfl) ha) (ev_lenT (ev_var rfl) hb) rv_I0) ?_
      rw [List.length_map, List.length_map]
      exact congrArg _ (decide_eq_decide.mpr Int.ofNat_le)
    · rw [← fm_some (fun l => decide (l ∈ c)) o]
      refine ep_lcT (σ := [some (.ref a), some (.ref b), none]) (vs := [2]) (j := 2) (P0 := fun y n => y = V.int n) (xs := o.map V.int) (as := o) (fun l => some (decide (l ∈ c))) stb_bl (ep_of (ev_var (i := 0) (v := .ref a) rfl) fun H1 e => ⟨a, rfl, st_of (e a _ ha)⟩) (ints_paired o) (by rw [List.length_map]; omega) (fun x => rfl) (fun x l H1 _ _ _ => ey) fun x l b' H1 e p0 _ hb' => ?_
      have eb := Option.some.inj hb'
      subst eb p0
      exact ep_of (ev_op (ev_var (i := 2) (v := .int l) rfl) (ev_var (i := 1) (v := .ref b) rfl) (rv_inI (e b _ hb))) fun _ _ => rfl
    · obtain ⟨z, rfl, hz⟩ := hv
      have h := rc_all (K := K) hz
      rw [List.all_map] at h
      exact h
theorem sp_wi {v u : V} {H : Hp} {o c : List Int} (h1 : TkL H v o) (h2 : TkL H u c) (l1 : o.length ≤ 1000) (l2 : c.length ≤ 1000) (hn : o.Nodup) : SpP spWi [v, u] H (fun _ z => z = .bl (withinM o c)) := fun H1 e Q q E =>
  ⟨v, u, o, c, rfl, h1.mono (ExT.of e), h2.mono (ExT.of e), l1, l2, fun H' e' => q _ H' e' (by rw [within_eq hn])⟩
theorem scLess : FnScope ["residue", "kept", "clause", "other"] ["residue"] (defScope sLess) := ⟨rfl, rfl, rfl, by decide +kernel, rfl, by decide +kernel, by decide +kernel⟩
theorem rv_neD {x y : V} {H : Hp} {c d : List Int} (h1 : TkL H x c) (h2 : TkL H y d) : RvP (rNeD K) x y H (fun _ z => z = .bl (decide (c ≠ d))) := fun Q q => by
  refine ⟨dI c, dI d, h1.dp, h2.dp, shaped_I _, shaped_I _, ?_⟩
  rw [eqv_I]
  exact q _ H (Ex.refl H) (by rw [decide_not])
theorem ok_less {f f1 : Addr} {fd fd1 : FuncData} {k : Nat} (F : FnP K "lessened" sLess f fd) (bi : Bi mg) (WI : Fn P w K mg base "is_within" (k + 1) f1 fd1 ["first", "second"] spWi) : FnOk P w K mg base CX0 (k + 2) f fd ["residue"] spLess := by
  refine F.ok scLess (fun vs H Q E h => ?_) (fun cdv A outer s H vs Q E hr h => ?_)
  · obtain ⟨v, c, rfl, _⟩ := h
    rfl
  · obtain ⟨v, R, rfl, hR, hs, hn, q⟩ := h
    have hR' := hR
    obtain ⟨a, ys, rfl, ha, pr⟩ := hR'
    refine ⟨_, PSs.nox (pss_cons (ps_set (i := 1) scLess.nd rfl (.inl rfl) (pe_lst pa_nil))
      (pss_cons (ps_for PassesOwn.never rfl (pi_tup (pv 0)) (pg_name (i := 2) scLess.nd rfl (.inr rfl))
        (pss_one (ps_if (pt_not (pt_val (pe_callB (cr_any rfl) (by rfl) bi.any (by decide +kernel) (pa_cons (pe_lc (own := [("other", 3)]) (g := gName 3) rfl scLess.nd (pi_tup (pv 0)) (blkOk_by (N := ["residue", "kept", "clause", "other"]) (sc := defScope sLess) (by decide +kernel))
            (fun _ _ _ _ _ => pg_name (i := 3) scLess.nd rfl (Or.inl rfl)) (fun _ _ _ _ _ => pts_nil) (fun _ _ _ _ _ => pe_and (pe_cmpR (r := rNeD K) (op_neD hr.units) (pv 3) (pv 2) (nomark _)) (pe_one (WI.pe hr (by rfl) (pa_cons (pv 3) (pa_cons (pv 2) pa_nil)))))) pa_nil))))
          (pss_one (ps_expr (pe_bm PySem.F.plainAttrs_list PySem.F.slot_list_append PySem.F.type_list_append mt_append (pv 1) (pa_cons (pv 2) pa_nil)))) pss_nil)))
      (pss_one (ps_ret (pe_callTy call_tuple_of (by rfl) bi.tuple (by decide +kernel) (pa_cons (pv 1) pa_nil)))))), ?_⟩
    refine q_asgL (el_lst ea_nil (by decide)) fun r H1 nr e1 hr1 => ?_
    refine q_forT (K := K) (a := a) (xs := ys) (ev_var (i := 0) rfl) (st_of (e1 a _ ha)) (fun i σ' H' => (∃ y2, σ' = [some (.ref a), some (.ref r), y2, none]) ∧ Lcw H (fun c H y => TkL H y c) (fun c => if (!(R.any fun o => decide (o ≠ c) && withinM o c)) = true then some c else none) R r i H')
      (fun H2 e2 => ⟨⟨none, rfl⟩, lcw_start (e1.trans e2) nr (e2 r _ hr1)⟩) (fun i σ' H' _ p => st_of (lcw_ex p.2 a _ ha)) (fun i x σ' H' hi p => ?_) fun σ' H' p => ?_
    · obtain ⟨⟨y2, rfl⟩, w⟩ := p
      obtain ⟨c, hc, b, rfl, hb⟩ := paired_get pr hi
      have hi5 := (List.getElem?_eq_some_iff.mp hc).1
      have hR5 := hs.1
      have hb' := lcw_ex w b _ hb
      have ha' := lcw_ex w a _ ha
      have pr' : Paired (TkL H') ys R := paired_imp (fun y c z => z.mono (ExT.of (lcw_ex w))) pr
      have hcl : c.length ≤ 1000 := Nat.le_trans (hs.2 c (List.mem_of_getElem? hc)) (by decide)
      obtain ⟨zs, hz, hzl⟩ := lcw_get w
      refine s_when (b := !(R.any fun o => decide (o ≠ c) && withinM o c)) (et_not (et_B (ev_of (ep_cb (ep_a1 (P1 := LsP (fun b _ y => y = V.bl b) (R.map fun o => decide (o ≠ c) && withinM o c)) ?_) fun vs H1 e hv => ?_)))) (fun hm H2 e2 => ?_) fun hm H2 e2 => ?_
      · rw [← fm_some (fun o => decide (o ≠ c) && withinM o c) R]
        refine ep_lcT (σ := [some (.ref a), some (.ref r), some (.ref b), none]) (vs := [3]) (j := 3) (P0 := TkL H') (xs := ys) (as := R) (fun o => some (decide (o ≠ c) && withinM o c)) stb_bl (ep_of (ev_var (i := 0) (v := .ref a) rfl) fun H1 e => ⟨a, rfl, st_of (e a _ ha')⟩) pr' (by rw [Paired.length pr']; omega) (fun x => rfl) (fun x l H1 _ _ _ => ey) fun x o b' H1 e p0 ho hb' => ?_
        have eb := Option.some.inj hb'
        subst eb
        have tb : TkL H' (.ref b) c := ⟨b, rfl, by assumption⟩
        refine ep_of (ev_andV (a := decide (o ≠ c)) (b := withinM o c) (ev_of (ep_op (P1 := fun H v => TkL H v o) (P2 := fun H v => TkL H v c) (ep_of (ev_var (i := 3) (v := x) rfl) fun H2 e2 => p0.mono (ExT.of (e.trans e2))) (stb_L _).mo (fun w H2 e2 _ => ep_of (ev_var (i := 2) (v := .ref b) rfl) fun H3 e3 => tb.mono (ExT.of ((e.trans e2).trans e3))) fun w w' H2 e2 h1 h2 => rv_neD h1 h2)) fun _ => ev_of (ep_call (ep_a2 (P1 := fun H v => TkL H v o) (P2 := fun H v => TkL H v c) (ep_of (ev_var (i := 3) (v := x) rfl) fun H2 e2 => p0.mono (ExT.of (e.trans e2))) (stb_L _).mo (fun w H2 e2 _ => ep_of (ev_var (i := 2) (v := .ref b) rfl) fun H3 e3 => tb.mono (ExT.of ((e.trans e2).trans e3)))) fun vs H2 e2 hv => ?_)) fun _ _ => rfl
        obtain ⟨z, z', rfl, h1, h2⟩ := hv
        exact sp_wi h1 h2 (Nat.le_trans (hs.2 o ho) (by decide)) hcl (hn o ho)
      · obtain ⟨z, rfl, hz⟩ := hv
        have h := rc_any (K := K) hz
        rw [List.any_map] at h
        exact h
      · refine p_app (K := K) (P := fun H y => TkL H y c) (e2 r _ hz) (ev_var (i := 1) rfl) (ep_of (ev_var (i := 2) (v := .ref b) rfl) fun H4 e4 => ⟨b, rfl, (e2.trans e4) b _ hb'⟩) (by omega) fun v H4 e4 hv => ⟨⟨_, rfl⟩, ?_⟩
        exact lcw_app stb_tk w hc (by simp only [hm]; rfl) hz (e2.trans e4) hv
      · exact ⟨⟨_, rfl⟩, lcw_skip stb_tk w hc (by simp only [hm]; rfl) e2⟩
    · obtain ⟨⟨y2, rfl⟩, w⟩ := p
      rw [Paired.length pr] at w
      have w2 := lcw_end w
      rw [fm_filt] at w2
      exact p_ret (P := fun H v => TkR H v (lessM R)) (ep_imp (ep_tuple (Pb := fun d H y => TkL H y d) stb_tkl (ep_of (P := ClsP (lessM R)) (ev_var (i := 1) rfl) fun H2 e2 => ClsP.mono e2 w2)) fun w H1 _ h => h.cls) fun v H2 e2 h2 => q v H2 ((lcw_ex w).trans e2) h2
theorem scShown : FnScope ["formula", "residue", "v"] ["formula", "residue"] (defScope sShown) := ⟨rfl, rfl, rfl, by decide +kernel, rfl, by decide +kernel, by decide +kernel⟩
theorem sp_var {R : List (List Int)} {v : V} {H : Hp} (h : TkR H v R) (hs : Sm R) : SpP spVar [v] H (fun H v => TkL H v (varsM R)) := fun H1 e Q q E => ⟨v, R, rfl, h.mono (ExT.of e), hs, q⟩
theorem len_vars {R : List (List Int)} (hs : Sm R) : (varsM R).length ≤ 60 := by
  unfold varsM
  rw [(srtI_perm _).length_eq]
  exact Nat.le_trans (len_once _) hs.lits
theorem ok_shown {f f1 : Addr} {fd fd1 : FuncData} {k : Nat} (F : FnP K "shown_of" sShown f fd) (bi : Bi mg) (VO : Fn P w K mg base "variables_of" (k + 1) f1 fd1 ["residue"] spVar) : FnOk P w K mg base CX0 (k + 2) f fd ["formula", "residue"] spShown := by
  refine F.ok scShown (fun vs H Q E h => ?_) (fun cdv A outer s H vs Q E hr h => ?_)
  · obtain ⟨v, _, _, _, _, _, rfl, _⟩ := h
    rfl
  · obtain ⟨p, u, x, xs, sh, R, rfl, hp, hx, hR, hs, q⟩ := h
    refine ⟨_, PSs.nox (pss_one (ps_ret (pe_callTy call_tuple_of (by rfl) bi.tuple (by decide +kernel) (pa_cons (pe_lc (own := [("v", 2)]) (g := gName 2) rfl scShown.nd (pi_tup (VO.pe hr (by rfl) (pa_cons (pv 1) pa_nil))) (blkOk_by (N := ["formula", "residue", "v"]) (sc := defScope sShown) (by decide +kernel))
      (fun _ _ _ _ _ => pg_name (i := 2) scShown.nd rfl (Or.inl rfl)) (fun _ _ _ _ _ => pts_one (pt_cmpR (r := rIn K false) op_in_seq (pv 2) (pe_ix (r := rIxT K) ix_tup (pv 0) pe_int (fun _ _ => rfl)) (by rfl))) (fun _ _ _ _ _ => pv 2)) pa_nil)))), ?_⟩
    refine p_ret (P := fun H v => TkL H v ((varsM R).filter fun n => decide (n ∈ sh))) (ep_imp (ep_tuple (Pb := fun n _ y => y = V.int n) stb_int ?_) fun w H1 _ h => h.ints) q
    rw [← fm_filt]
    refine ep_lcT (σ := [some (.ref p), some u, none]) (vs := [2]) (j := 2) (P0 := fun y n => y = V.int n) (xs := (varsM R).map V.int) (as := varsM R) (fun n => if decide (n ∈ sh) = true then some n else none) stb_int (ep_imp (ep_call (ep_a1 (ep_of (P := fun H v => TkR H v R) (ev_var (i := 1) (v := u) rfl) fun H2 e2 => hR.mono (ExT.of e2))) fun vs H2 e2 hv => by
        obtain ⟨z, rfl, hz⟩ := hv
        exact sp_var hz hs) fun w H1 _ h => by
        obtain ⟨a, rfl, ha⟩ := h
        exact ⟨a, rfl, st_of ha⟩) (ints_paired _) (by rw [List.length_map]; exact Nat.le_trans (len_vars hs) (by decide)) (fun x => rfl) (fun y n H1 e hy _ => ?_) fun y n m H1 e hy _ hf => ?_
    · subst hy
      obtain ⟨b, rfl, hb⟩ := hx
      rw [is_som]
      exact et_test (ev_op (ev_var (i := 2) (v := .int n) rfl) (ev_op (ev_var (i := 0) (v := .ref p) rfl) ev_c (rv_ixT (st_of (e p _ hp)) atI_head)) (rv_inI (e b _ hb)))
    · subst hy
      obtain ⟨_, rfl⟩ := of_som hf
      exact ep_of (ev_var (i := 2) rfl) fun _ _ => rfl
end
end Cw

set_option Elab.async false
set_option linter.all false
set_option maxRecDepth 100000
set_option maxHeartbeats 2000000
/-! joined_variables. -/
namespace Cw
open PySem PySem.Spec PyProof.Rows L2 Evl

/-! ### dicts of ints -/
def dkG (ks : List Int) (g : Int → V) : List (Key × V) := ks.map fun m => (Sum.inl m, g m)
theorem dkG_keys (ks : List Int) (g : Int → V) : (dkG ks g).map (·.1) = ks.map Sum.inl := by
  unfold dkG
  rw [List.map_map]
  rfl
theorem dkG_len (ks : List Int) (g : Int → V) : (dkG ks g).length = ks.length := List.length_map _
theorem dkG_val {g : Int → V} {m : Int} : ∀ {ks : List Int}, m ∈ ks → valV (dkG ks g) (.inl m) = some (g m)
  | n :: ks, h => by
    by_cases e : n = m
    · subst e
      exact valV_pos rfl
    · rcases List.mem_cons.mp h with z | z
      · exact absurd z.symm e
      · exact (valV_neg fun q => e (Sum.inl.inj q)).trans (dkG_val z)
theorem dkG_none {g : Int → V} {m : Int} : ∀ {ks : List Int}, ¬ m ∈ ks → valV (dkG ks g) (.inl m) = none
  | [], _ => rfl
  | n :: ks, h => (valV_neg fun q => h (by rw [Sum.inl.inj q]; exact List.mem_cons_self)).trans (dkG_none fun z => h (List.mem_cons_of_mem _ z))
def setF {α : Type} (g : Int → α) (m : Int) (v : α) (x : Int) : α := if x = m then v else g x
theorem setF_same {α : Type} (g : Int → α) (m : Int) (v : α) : setF g m v m = v := if_pos rfl
theorem setF_ne {α : Type} (g : Int → α) {m x : Int} (v : α) (h : x ≠ m) : setF g m v x = g x := if_neg h
theorem dkG_put {g : Int → V} {m : Int} {v : V} {ks : List Int} (h : m ∈ ks) : putK (dkG ks g) (.inl m) v = dkG ks (setF g m v) := by
  have ha : ((dkG ks g).any fun kv => decide (kv.1 = (Sum.inl m : Key))) = true := by
    rw [valV_any, dkG_val h]
    rfl
  unfold putK
  rw [if_pos ha]
  unfold dkG
  rw [List.map_map]
  refine List.map_congr_left fun n _ => ?_
  show (if (Sum.inl n : Key) = Sum.inl m then ((Sum.inl n : Key), v) else (Sum.inl n, g n)) = (Sum.inl n, setF g m v n)
  unfold setF
  by_cases e : n = m
  · rw [if_pos (congrArg _ e), if_pos e]
  · rw [if_neg fun q => e (Sum.inl.inj q), if_neg e]
theorem dkG_congr {g g' : Int → V} {ks : List Int} (h : ∀ m ∈ ks, g m = g' m) : dkG ks g = dkG ks g' := List.map_congr_left fun m hm => by rw [h m hm]
theorem dkG_new {g : Int → V} {m : Int} {v : V} {ks : List Int} (h : ¬ m ∈ ks) : putK (dkG ks g) (.inl m) v = dkG (ks ++ [m]) (setF g m v) := by
  rw [putK_new v (dkG_none h)]
  have e : dkG ks g = dkG ks (setF g m v) := dkG_congr fun n hn => (setF_ne g v fun z => h (by rw [← z]; exact hn)).symm
  rw [e]
  unfold dkG
  rw [List.map_append]
  show _ = _ ++ [(Sum.inl m, setF g m v m)]
  rw [setF_same]
/-! ### the leaders -/
structure Ld (R : List (List Int)) (ld : Int → Int) : Prop where
  conn : ∀ v ∈ varsM R, Conn R v (ld v)
  le : ∀ v ∈ varsM R, ld v ≤ v
  nn : ∀ v ∈ varsM R, 0 ≤ ld v
def mea (vs : List Int) (ld : Int → Int) : Nat := (vs.map fun v => (ld v).toNat).sum
theorem mea_le {ld ld' : Int → Int} : ∀ {vs : List Int}, (∀ v ∈ vs, (ld' v).toNat ≤ (ld v).toNat) → mea vs ld' ≤ mea vs ld
  | [], _ => Nat.le_refl _
  | v :: vs, h => by
    have h1 := h v List.mem_cons_self
    have h2 := mea_le (ld := ld) (ld' := ld') (vs := vs) fun x hx => h x (List.mem_cons_of_mem _ hx)
    unfold mea at h2 ⊢
    rw [List.map_cons, List.sum_cons, List.map_cons, List.sum_cons]
    omega
theorem mea_lt {ld ld' : Int → Int} {u : Int} : ∀ {vs : List Int}, u ∈ vs → (ld' u).toNat < (ld u).toNat → (∀ v ∈ vs, (ld' v).toNat ≤ (ld v).toNat) → mea vs ld' < mea vs ld
  | v :: vs, hu, hl, h => by
    have h1 := h v List.mem_cons_self
    have h2 : mea vs ld' ≤ mea vs ld := mea_le fun x hx => h x (List.mem_cons_of_mem _ hx)
    have e1 : mea (v :: vs) ld' = (ld' v).toNat + mea vs ld' := by unfold mea; rw [List.map_cons, List.sum_cons]
    have e2 : mea (v :: vs) ld = (ld v).toNat + mea vs ld := by unfold mea; rw [List.map_cons, List.sum_cons]
    rcases List.mem_cons.mp hu with z | z
    · subst z
      omega
    · have h3 := mea_lt z hl fun x hx => h x (List.mem_cons_of_mem _ hx)
      omega
theorem ab_vars {R : List (List Int)} {c : List Int} (hc : c ∈ R) {l : Int} (hl : l ∈ c) : ab l ∈ varsM R := mem_varsM.mpr ⟨c, hc, l, hl, rfl⟩
theorem vars_nn {R : List (List Int)} {v : Int} (h : v ∈ varsM R) : 0 ≤ v := by
  obtain ⟨c, _, l, _, rfl⟩ := mem_varsM.mp h
  exact ab_nn l
theorem ld_id (R : List (List Int)) : Ld R (fun v => v) := ⟨fun v _ => Conn.refl R v, fun v _ => Int.le_refl v, fun v h => vars_nn h⟩
/-- the least leader of a clause -/
structure Least (R : List (List Int)) (ld : Int → Int) (c : List Int) (m : Int) : Prop where
  conn : ∀ l ∈ c, Conn R (ab l) m
  le : ∀ l ∈ c, m ≤ ld (ab l)
  nn : 0 ≤ m
theorem Least.of {R : List (List Int)} {ld : Int → Int} {c : List Int} {m : Int} (L : Ld R ld) (hc : c ∈ R) (hm : m ∈ c.map fun l => ld (ab l)) (hl : ∀ y ∈ c.map (fun l => ld (ab l)), m ≤ y) : Least R ld c m := by
  obtain ⟨k, hk, rfl⟩ := List.mem_map.mp hm
  exact ⟨fun l h => (Conn.of hc h hk).trans (L.conn _ (ab_vars hc hk)), fun l h => hl _ (List.mem_map.mpr ⟨l, h, rfl⟩), L.nn _ (ab_vars hc hk)⟩
theorem Ld.set {R : List (List Int)} {ld : Int → Int} {c : List Int} {m l : Int} (L : Ld R ld) (hc : c ∈ R) (M : Least R ld c m) (hl : l ∈ c) : Ld R (setF ld (ab l) m) := by
  refine ⟨fun v hv => ?_, fun v hv => ?_, fun v hv => ?_⟩
  · by_cases e : v = ab l
    · subst e
      rw [setF_same]
      exact M.conn l hl
    · rw [setF_ne _ _ e]
      exact L.conn v hv
  · by_cases e : v = ab l
    · subst e
      rw [setF_same]
      exact Int.le_trans (M.le l hl) (L.le _ hv)
    · rw [setF_ne _ _ e]
      exact L.le v hv
  · by_cases e : v = ab l
    · subst e
      rw [setF_same]
      exact M.nn
    · rw [setF_ne _ _ e]
      exact L.nn v hv
theorem Least.set {R : List (List Int)} {ld : Int → Int} {c : List Int} {m l : Int} (M : Least R ld c m) (hl : l ∈ c) : Least R (setF ld (ab l) m) c m := by
  refine ⟨M.conn, fun k hk => ?_, M.nn⟩
  by_cases e : ab k = ab l
  · rw [e, setF_same]
    exact Int.le_refl m
  · rw [setF_ne _ _ e]
    exact M.le k hk
theorem mea_set {R : List (List Int)} {ld : Int → Int} {c : List Int} {m l : Int} (L : Ld R ld) (hc : c ∈ R) (M : Least R ld c m) (hl : l ∈ c) (hne : ld (ab l) ≠ m) : mea (varsM R) (setF ld (ab l) m) < mea (varsM R) ld := by
  have h1 := M.le l hl
  have h2 := M.nn
  refine mea_lt (ab_vars hc hl) (by rw [setF_same]; omega) fun v hv => ?_
  by_cases e : v = ab l
  · subst e
    rw [setF_same]
    omega
  · rw [setF_ne _ _ e]
    exact Nat.le_refl _
def spJoin : Sp := fun vs H Q _ => ∃ (v : V) (R : List (List Int)), vs = [v] ∧ TkR H v R ∧ Sm R ∧ ¬ [] ∈ R ∧ ∀ d ld H', Ex H H' → H' d = some (.dK (dkG (varsM R) fun v => .int (ld v))) → LeadOk R ld → Q (.ref d) H'
section
variable {P : Program} {w : World} {K : PySem.W.Frag} {mg : Str → Option Value} {base : Heap} {σ : L2.St} {H : Hp} {D : Ends} {tz : TS} {td ty tv te : TE}
theorem ev_dget {d : Addr} {kvs : List (Key × V)} {k : Key} {v : V} (ho : Ev td σ H (.ref d)) (hi : Ev ty σ H (kV k)) (hd : H d = some (.dK kvs)) (hv : valV kvs k = some v) : Ev (tDGet td ty) σ H v := fun H1 e Q q =>
  ho H1 e _ fun H2 e2 => hi H2 (e.trans e2) _ fun H3 e3 => ⟨d, v, rfl, by rw [← hv]; exact DGet.k (((e.trans e2).trans e3) d _ hd), q H3 (e2.trans e3)⟩
theorem q_dput {d : Addr} {kvs : List (Key × V)} {k : Key} {v : V} (hd : H d = some (.dK kvs)) (hv : Ev tv σ H v) (ho : Ev td σ H (.ref d)) (hi : Ev ty σ H (kV k)) (hz : kvs.length < 100000) (kk : ∀ H1, Ex H H1 → tz D σ (upd H1 d (.dK (putK kvs k v)))) : tSeq (sDPut td ty tv) tz D σ H :=
  p_dput (D := { D with nx := tz D }) hd hv ho hi hz kk
theorem rc_min {v : V} {ns : List Int} (h : LsP (fun n _ y => y = V.int n) ns H v) (hn : 0 < ns.length) : RcP (rMin K) [v] H (fun _ z => ∃ m, z = .int m ∧ m ∈ ns ∧ ∀ y ∈ ns, m ≤ y) := by
  obtain ⟨p, ys, rfl, hp, pr⟩ := h
  exact fun Q q => ⟨p, ns, rfl, by rw [← paired_ints pr]; exact sq_of hp, hn, fun m h1 h2 => q _ H (Ex.refl H) ⟨m, rfl, h1, h2⟩⟩
abbrev sJoin : Stmt := top 11
theorem scJoin : FnScope ["residue", "leader", "changed", "clause", "literal", "least", "v"] ["residue"] (defScope sJoin) := ⟨rfl, rfl, rfl, by decide +kernel, rfl, by decide +kernel, by decide +kernel⟩
/-- the dict {v: v for v in ..} -/
theorem ep_dcI {tl : TE} {j : Nat} {vs : List Nat} {ns : List Int} (h : EvP tl σ H (fun H v => TkL H v ns)) (hn : ns.Nodup) (hz : ns.length ≤ 40000) (hw : ∀ x, wipe ((wipe σ vs).set j (some x)) vs = wipe σ vs) (hj : ∀ x : V, ((wipe σ vs).set j (some x))[j]? = some (some x)) :
    EvP (tDc (iTup K tl) (gName j) tYes (tVar j) (tVar j) vs) σ H (fun H2 v => ∃ d, v = .ref d ∧ H d = none ∧ H2 d = some (.dK (dkG ns V.int))) := fun H0 e0 Q q => h H0 e0 _ fun v H1 e1 hv => by
  obtain ⟨a, rfl, ha⟩ := hv
  refine ⟨a, rfl, ⟨_, st_of ha⟩, fun D nD => dc_tup (xs := ns.map V.int) (fun i H' => Ex H1 H' ∧ H' D = some (.dK (dkG (ns.take i) V.int))) ⟨Ex.new nD, upd_same⟩ (fun i H' _ p => st_of (p.1 a _ ha)) (fun i x H' hi p => ?_) fun H' p => ?_⟩
  · obtain ⟨e, hD⟩ := p
    obtain ⟨n, hn', rfl⟩ : ∃ n, ns[i]? = some n ∧ x = .int n := by
      rw [List.getElem?_map] at hi
      cases hcj : ns[i]? with
      | none => rw [hcj] at hi; cases hi
      | some l => rw [hcj] at hi; exact ⟨l, rfl, (Option.some.inj hi).symm⟩
    refine ⟨hw _, ?_⟩
    simp only [tYes, if_true]
    refine ⟨.int n, hj _, .int n, hj _, _, .inl n, rfl, hD, ?_, Ex.mut e nD, ?_⟩
    · rw [dkG_len, List.length_take]
      exact Nat.lt_of_le_of_lt (Nat.min_le_right _ _) (sz_lt (by omega))
    · have hi' : ¬ n ∈ ns.take i := fun z => by
        obtain ⟨j, hj1, hj2⟩ := List.mem_take_iff_getElem.mp z
        obtain ⟨hi1, hi2⟩ := List.getElem?_eq_some_iff.mp hn'
        have := (List.getElem_inj (h₀ := by omega) (h₁ := hi1) hn).mp (hj2.trans hi2.symm)
        omega
      rw [upd_same, dkG_new hi', List.take_add_one, hn']
      show some (HO.dK _) = some (HO.dK (dkG (ns.take i ++ [n]) V.int))
      rw [dkG_congr (g := setF V.int n (.int n)) (g' := V.int) fun m _ => by
        unfold setF
        split
        · rename_i z
          rw [z]
        · rfl]
  · obtain ⟨e, hD⟩ := p
    rw [List.length_map, List.take_length] at hD
    exact q _ H' (e1.trans e) ⟨D, rfl, fresh_back (e0.trans e1) nD, hD⟩
theorem ok_join {f f1 : Addr} {fd fd1 : FuncData} {k : Nat} (F : FnP K "joined_variables" sJoin f fd) (bi : Bi mg) (VO : Fn P w K mg base "variables_of" (k + 1) f1 fd1 ["residue"] spVar) : FnOk P w K mg base CX0 (k + 2) f fd ["residue"] spJoin := by
  refine F.ok scJoin (fun vs H Q E h => ?_) (fun cdv A outer s H vs Q E hr h => ?_)
  · obtain ⟨v, c, rfl, _⟩ := h
    rfl
  · obtain ⟨v, R, rfl, hR, hs, hne, q⟩ := h
    have hR' := hR
    obtain ⟨a, ys, rfl, ha, pr⟩ := hR'
    refine ⟨_, PSs.nox (pss_cons (ps_set (i := 1) scJoin.nd rfl (.inr rfl) (pe_dc (own := [("v", 6)]) (g := gName 6) rfl scJoin.nd (pi_tup (VO.pe hr (by rfl) (pa_cons (pv 0) pa_nil))) (blkOk_by (N := ["residue", "leader", "changed", "clause", "literal", "least", "v"]) (sc := defScope sJoin) (by decide +kernel))
        (fun _ _ _ _ _ => pg_name (i := 6) scJoin.nd rfl (Or.inl rfl)) (fun _ _ _ _ _ => pts_nil) (fun _ _ _ _ _ => pv 6) (fun _ _ _ _ _ => pv 6)))
      (pss_cons (ps_set (i := 2) scJoin.nd rfl (.inl rfl) pe_bl)
      (pss_cons (ps_while PassesOwn.never (pt_val (pv 2))
        (pss_cons (ps_set (i := 2) scJoin.nd rfl (.inl rfl) pe_bl)
        (pss_one (ps_for PassesOwn.never rfl (pi_tup (pv 0)) (pg_name (i := 3) scJoin.nd rfl (.inl rfl))
          (pss_cons (ps_set (i := 5) scJoin.nd rfl (.inl rfl) (pe_callB (cr_min rfl) (by rfl) bi.min (by decide +kernel) (pa_cons (pe_lc (own := [("literal", 4)]) (g := gName 4) rfl scJoin.nd (pi_tup (pv 3)) (blkOk_by (N := ["residue", "leader", "changed", "clause", "literal", "least", "v"]) (sc := defScope sJoin) (by decide +kernel))
              (fun _ _ _ _ _ => pg_name (i := 4) scJoin.nd rfl (Or.inl rfl)) (fun _ _ _ _ _ => pts_nil) (fun _ _ _ _ _ => pe_dget (ru1 hr) (pv 1) (pe_callB (id := "abs") call_abs (by rfl) bi.abs (by decide +kernel) (pa_cons (pv 4) pa_nil)) (fun _ _ => rfl))) pa_nil)))
          (pss_one (ps_for PassesOwn.never rfl (pi_tup (pv 3)) (pg_name (i := 4) scJoin.nd rfl (.inl rfl))
            (pss_one (ps_if (pt_cmpR op_ne (pe_dget (ru1 hr) (pv 1) (pe_callB call_abs (by rfl) bi.abs (by decide +kernel) (pa_cons (pv 4) pa_nil)) (fun _ _ => rfl)) (pv 5) (nomark _))
              (pss_cons (ps_dput (ru1 hr) (pv 1) (pe_callB call_abs (by rfl) bi.abs (by decide +kernel) (pa_cons (pv 4) pa_nil)) (pv 5) (by rfl))
              (pss_one (ps_set (i := 2) scJoin.nd rfl (.inl rfl) pe_bl))) pss_nil)))))))))
      (pss_one (ps_ret (pv 1)))))), ?_⟩
    refine p_asgS (ep_dcI (σ := [some (.ref a), none, none, none, none, none, none]) (j := 6) (vs := [6]) (ns := varsM R) (ep_call (ep_a1 (ep_of (P := fun H v => TkR H v R) (ev_var (i := 0) (v := .ref a) rfl) fun H2 e2 => hR.mono (ExT.of e2))) fun vs H2 e2 hv => by
        obtain ⟨z, rfl, hz⟩ := hv
        exact sp_var hz hs) (pw_lt_nodup (varsM_lt R)) (Nat.le_trans (len_vars hs) (by decide)) (fun _ => rfl) fun _ => rfl) fun v H1 e1 hv => ?_
    obtain ⟨d, rfl, nd, hd⟩ := hv
    refine q_asg ev_c fun H2 e2 => ?_
    refine q_while (fun m σ' H' => ∃ ch y3 y4 y5 ld, σ' = [some (.ref a), some (.ref d), some (.bl ch), y3, y4, y5, none] ∧ Ex H H' ∧ H' d = some (.dK (dkG (varsM R) fun v => .int (ld v))) ∧ Ld R ld ∧ m = mea (varsM R) ld + (if ch = true then 1 else 0) ∧ (ch = false → ∀ c ∈ R, ∀ x ∈ c, ∀ y ∈ c, ld (ab x) = ld (ab y))) _
      ⟨true, none, none, none, fun v => v, rfl, e1.trans e2, e2 d _ hd, ld_id R, rfl, fun z => by cases z⟩ fun m σ' H' p => ?_
    obtain ⟨ch, y3, y4, y5, ld, rfl, e, hD, L, rfl, sm⟩ := p
    refine ⟨ch, et_B (ev_var (i := 2) rfl), fun hb H3 e3 => ?_, fun hb H3 e3 => ?_⟩
    · subst hb
      refine ⟨_, fun σ2 H2 h => h, ?_⟩
      refine q_asg ev_c fun H4 e4 => ?_
      have e04 := (e.trans e3).trans e4
      have hD4 : H4 d = _ := (e3.trans e4) d _ hD
      refine s_forT (K := K) (a := a) (xs := ys) (ev_var (i := 0) rfl) (st_of (e04 a _ ha)) (fun i σ' H' => ∃ ch y3 y4 y5 ld', σ' = [some (.ref a), some (.ref d), some (.bl ch), y3, y4, y5, none] ∧ Ex H H' ∧ H' d = some (.dK (dkG (varsM R) fun v => .int (ld' v))) ∧ Ld R ld' ∧
          (ch = true → mea (varsM R) ld' < mea (varsM R) ld) ∧ (ch = false → ld' = ld ∧ ∀ c ∈ R.take i, ∀ x ∈ c, ∀ y ∈ c, ld (ab x) = ld (ab y)))
        (fun H5 e5 => ⟨false, y3, y4, y5, ld, rfl, e04.trans e5, e5 d _ hD4, L, (fun z => by cases z), fun _ => ⟨rfl, fun c hc => by cases hc⟩⟩) (fun i σ' H' _ p => by
          obtain ⟨_, _, _, _, _, _, e, _⟩ := p
          exact st_of (e a _ ha)) (fun i x σ' H' hi p => ?_) fun σ' H' p => ?_
      · obtain ⟨ch, z3, z4, z5, ld', rfl, e', hD', L', mt, mf⟩ := p
        obtain ⟨c, hc, b, rfl, hb⟩ := paired_get pr hi
        have hcR := List.mem_of_getElem? hc
        have hcl := hs.2 c hcR
        have hb' := e' b _ hb
        have hcn : c ≠ [] := fun z => hne (by rw [← z]; exact hcR)
        have hc0 : 0 < (c.map fun l => ld' (ab l)).length := by
          rw [List.length_map]
          exact List.length_pos_iff.mpr hcn
        refine p_asgS (P := fun _ z => ∃ m, z = .int m ∧ m ∈ (c.map fun l => ld' (ab l)) ∧ ∀ y ∈ c.map (fun l => ld' (ab l)), m ≤ y) (ep_cb (ep_a1 (P1 := LsP (fun n _ y => y = V.int n) (c.map fun l => ld' (ab l))) ?_) fun vs H5 e5 hv => by
          obtain ⟨z, rfl, hz⟩ := hv
          exact rc_min hz hc0) fun z H5 e5 hm => ?_
        · rw [← fm_some (fun l => ld' (ab l)) c]
          refine ep_lcT (σ := [some (.ref a), some (.ref d), some (.bl ch), some (.ref b), z4, z5, none]) (vs := [4]) (j := 4) (P0 := fun y n => y = V.int n ∧ n ∈ c) (xs := c.map V.int) (as := c) (fun l => some (ld' (ab l))) stb_int (ep_of (ev_var (i := 3) (v := .ref b) rfl) fun H1 e => ⟨b, rfl, st_of (e b _ hb')⟩) ?_ (by rw [List.length_map]; omega) (fun x => rfl) (fun x l H1 _ _ _ => ey) fun x l b' H6 e6 p0 _ hb2 => ?_
          · have h : ∀ ns : List Int, (∀ n ∈ ns, n ∈ c) → Paired (fun y n => y = V.int n ∧ n ∈ c) (ns.map V.int) ns := fun ns => by
              induction ns with
              | nil => exact fun _ => .nil
              | cons n ns ih => exact fun h => .cons ⟨rfl, h n List.mem_cons_self⟩ (ih fun m hm => h m (List.mem_cons_of_mem _ hm))
            exact h c fun _ h => h
          · obtain ⟨rfl, hlc⟩ := p0
            have eb := Option.some.inj hb2
            subst eb
            exact ep_of (ev_dget (ev_var (i := 1) (v := .ref d) rfl) (ev_cb (ea_cons (ev_var (i := 4) (v := .int l) rfl) ea_nil) rc_abs) (k := .inl (ab l)) (e6 d _ hD') (dkG_val (ab_vars hcR hlc))) fun _ _ => rfl
        · obtain ⟨m, rfl, hm1, hm2⟩ := hm
          have M := Least.of L' hcR hm1 hm2
          have e05 := e'.trans e5
          refine s_forT (K := K) (a := b) (xs := c.map V.int) (ev_var (i := 3) rfl) (st_of (e05 b _ hb)) (fun j σ' H' => ∃ ch y4 ld2, σ' = [some (.ref a), some (.ref d), some (.bl ch), some (.ref b), y4, some (.int m), none] ∧ Ex H H' ∧ H' d = some (.dK (dkG (varsM R) fun v => .int (ld2 v))) ∧ Ld R ld2 ∧ Least R ld2 c m ∧
              (ch = true → mea (varsM R) ld2 < mea (varsM R) ld) ∧ (ch = false → ld2 = ld ∧ (∀ c ∈ R.take i, ∀ x ∈ c, ∀ y ∈ c, ld (ab x) = ld (ab y)) ∧ ∀ l ∈ c.take j, ld (ab l) = m))
            (fun H6 e6 => ⟨ch, z4, ld', rfl, e05.trans e6, (e5.trans e6) d _ hD', L', M, mt, fun z => ⟨(mf z).1, (mf z).2, fun c hc => by cases hc⟩⟩) (fun i σ' H' _ p => by
              obtain ⟨_, _, _, _, e, _⟩ := p
              exact st_of (e b _ hb)) (fun j x σ' H' hj p => ?_) fun σ' H' p => ?_
          · obtain ⟨ch, y4, ld2, rfl, e6, hD6, L6, M6, mt6, mf6⟩ := p
            obtain ⟨l, hl, rfl⟩ : ∃ l, c[j]? = some l ∧ x = .int l := by
              rw [List.getElem?_map] at hj
              cases hcj : c[j]? with
              | none => rw [hcj] at hj; cases hj
              | some l => rw [hcj] at hj; exact ⟨l, rfl, (Option.some.inj hj).symm⟩
            have hlc := List.mem_of_getElem? hl
            refine s_when (b := !decide (V.int (ld2 (ab l)) = V.int m)) (et_test (ev_op (ev_dget (ev_var (i := 1) (v := .ref d) rfl) (ev_cb (ea_cons (ev_var (i := 4) (v := .int l) rfl) ea_nil) rc_abs) (k := .inl (ab l)) hD6 (dkG_val (ab_vars hcR hlc))) (ev_var (i := 5) (v := .int m) rfl) (rv_ne rfl))) (fun hb2 H7 e7 => ?_) fun hb2 H7 e7 => ?_
            · rw [ne_int] at hb2
              have hne2 := of_decide_eq_true hb2
              refine q_dput (e7 d _ hD6) (ev_var (i := 5) (v := .int m) rfl) (ev_var (i := 1) (v := .ref d) rfl) (ev_cb (ea_cons (ev_var (i := 4) (v := .int l) rfl) ea_nil) rc_abs) (k := .inl (ab l)) (by rw [dkG_len]; exact Nat.lt_of_le_of_lt (len_vars hs) (by decide)) fun H8 e8 => ?_
              refine s_asg ev_c fun H9 e9 => ?_
              refine ⟨true, _, setF ld2 (ab l) m, rfl, (Ex.mut ((e6.trans e7).trans e8) nd).trans e9, e9 d _ ?_, L6.set hcR M6 hlc, M6.set hlc, fun _ => ?_, fun z => by cases z⟩
              · rw [upd_same, dkG_put (ab_vars hcR hlc)]
                refine congrArg (fun z => some (HO.dK z)) (dkG_congr fun x _ => ?_)
                unfold setF
                split <;> rfl
              · have h1 := mea_set L6 hcR M6 hlc hne2
                cases ch with
                | true => exact Nat.lt_trans h1 (mt6 rfl)
                | false =>
                  rw [(mf6 rfl).1] at h1 ⊢
                  exact h1
            · rw [ne_int] at hb2
              have hne2 : ld2 (ab l) = m := Classical.byContradiction fun z => by
                rw [decide_eq_true z] at hb2
                cases hb2
              refine ⟨ch, _, ld2, rfl, e6.trans e7, e7 d _ hD6, L6, M6, mt6, fun z => ⟨(mf6 z).1, (mf6 z).2.1, fun k hk => ?_⟩⟩
              rw [List.take_add_one, hl] at hk
              rcases List.mem_append.mp hk with hk | hk
              · exact (mf6 z).2.2 k hk
              · obtain rfl : k = l := by simpa using hk
                rw [← (mf6 z).1]
                exact hne2
          · obtain ⟨ch, y4, ld2, rfl, e6, hD6, L6, M6, mt6, mf6⟩ := p
            refine ⟨ch, _, _, _, ld2, rfl, e6, hD6, L6, mt6, fun z => ⟨(mf6 z).1, fun c' hc' x hx y hy => ?_⟩⟩
            rw [List.take_add_one, hc] at hc'
            rcases List.mem_append.mp hc' with hc' | hc'
            · exact (mf6 z).2.1 c' hc' x hx y hy
            · obtain rfl : c' = c := by simpa using hc'
              have h := (mf6 z).2.2
              rw [List.length_map, List.take_length] at h
              rw [h x hx, h y hy]
      · obtain ⟨ch, z3, z4, z5, ld', rfl, e', hD', L', mt, mf⟩ := p
        rw [Paired.length pr, List.take_length] at mf
        refine ⟨mea (varsM R) ld' + (if ch = true then 1 else 0), ?_, ch, z3, z4, z5, ld', rfl, e', hD', L', rfl, fun z c hc x hx y hy => ?_⟩
        · cases ch with
          | true =>
            have := mt rfl
            show mea (varsM R) ld' + 1 < mea (varsM R) ld + 1
            omega
          | false =>
            rw [(mf rfl).1]
            show mea (varsM R) ld + 0 < mea (varsM R) ld + 1
            omega
        · rw [(mf z).1]
          exact (mf z).2 c hc x hx y hy
    · subst hb
      refine s_ret (ev_var (i := 1) (v := .ref d) rfl) fun H4 e4 => q d ld H4 ((e.trans e3).trans e4) ((e3.trans e4) d _ hD) ⟨sm rfl, L.conn, L.le⟩
end
end Cw

set_option Elab.async false
set_option linter.all false
set_option maxRecDepth 100000
set_option maxHeartbeats 2000000
/-! parts_of. -/
namespace Cw
open PySem PySem.Spec PyProof.Rows L2 Evl

theorem upd_agree {H : Hp} {a b : Addr} {o : HO} (h : b ≠ a) : upd H a o b = H b := upd_ne h
theorem grp_next {R : List (List Int)} {ld : Int → Int} {i : Nat} {c : List Int} (h : R[i]? = some c) (m : Int) : grp (R.take (i + 1)) ld m = grp (R.take i) ld m ++ (if lead ld c = m then [c] else []) := by
  unfold grp
  rw [List.take_add_one, h, List.filter_append]
  congr 1
  by_cases e : lead ld c = m
  · simp [e]
  · simp [e]
/-- the dict of the groups -/
structure Gw (H : Hp) (e : Addr) (ld : Int → Int) (R : List (List Int)) (H' : Hp) (pm : Int → Addr) : Prop where
  ne : H e = none
  ex : Ex H H'
  he : H' e = some (.dK (dkG (once (R.map (lead ld))) fun m => .ref (pm m)))
  nf : ∀ m ∈ once (R.map (lead ld)), H (pm m) = none
  ls : ∀ m ∈ once (R.map (lead ld)), ∃ ys, H' (pm m) = some (.lst ys) ∧ ys.length ≤ R.length ∧ Paired (TkL H') ys (grp R ld m)
  inj : ∀ m ∈ once (R.map (lead ld)), ∀ n ∈ once (R.map (lead ld)), pm m = pm n → m = n
theorem Gw.mono {H H' H1 : Hp} {e : Addr} {ld : Int → Int} {R : List (List Int)} {pm : Int → Addr} (g : Gw H e ld R H' pm) (x : Ex H' H1) : Gw H e ld R H1 pm :=
  ⟨g.ne, g.ex.trans x, x e _ g.he, g.nf, fun m hm => by
    obtain ⟨ys, h, l, p⟩ := g.ls m hm
    exact ⟨ys, x _ _ h, l, paired_imp (fun y c z => z.mono (ExT.of x)) p⟩, g.inj⟩
theorem map_next {R : List (List Int)} {ld : Int → Int} {i : Nat} {c : List Int} (h : R[i]? = some c) : (R.take (i + 1)).map (lead ld) = (R.take i).map (lead ld) ++ [lead ld c] := by
  rw [List.take_add_one, h, List.map_append]
  rfl
/-- the clause joins its group -/
theorem Gw.app {H H' : Hp} {e : Addr} {ld : Int → Int} {R : List (List Int)} {pm : Int → Addr} {i : Nat} {c : List Int} {y : V} {ys : List V} (g : Gw H e ld (R.take i) H' pm) (h : R[i]? = some c) (hm : lead ld c ∈ once ((R.take i).map (lead ld))) (hy : H' (pm (lead ld c)) = some (.lst ys)) (ht : TkL H' y c) :
    Gw H e ld (R.take (i + 1)) (upd H' (pm (lead ld c)) (.lst (ys ++ [y]))) pm := by
  have ek : once ((R.take (i + 1)).map (lead ld)) = once ((R.take i).map (lead ld)) := by
    rw [map_next h, once_in hm]
  have hlen : (R.take (i + 1)).length = (R.take i).length + 1 := by
    rw [List.take_add_one, h, List.length_append]
    rfl
  have xt : ExT H' (upd H' (pm (lead ld c)) (.lst (ys ++ [y]))) := ExT.lst hy
  have nep : e ≠ pm (lead ld c) := fun z => by
    have h1 := g.he
    rw [z, hy] at h1
    cases h1
  refine ⟨g.ne, Ex.mut g.ex (g.nf _ hm), ?_, by rw [ek]; exact g.nf, ?_, by rw [ek]; exact g.inj⟩
  · rw [ek, upd_ne nep]
    exact g.he
  · rw [ek]
    intro m hm'
    obtain ⟨zs, hz, lz, pz⟩ := g.ls m hm'
    by_cases e1 : m = lead ld c
    · subst e1
      obtain rfl : zs = ys := by
        have := hz.symm.trans hy
        cases this
        rfl
      refine ⟨_, upd_same, by rw [List.length_append, hlen]; exact Nat.succ_le_succ lz, ?_⟩
      rw [grp_next h, if_pos rfl]
      exact paired_snoc (ht.mono xt) (paired_imp (fun y c z => z.mono xt) pz)
    · have np : pm m ≠ pm (lead ld c) := fun z => e1 (g.inj _ hm' _ hm z)
      refine ⟨zs, by rw [upd_ne np]; exact hz, by rw [hlen]; exact Nat.le_succ_of_le lz, ?_⟩
      rw [grp_next h, if_neg fun z => e1 z.symm, List.append_nil]
      exact paired_imp (fun y c z => z.mono xt) pz
/-- a new group -/
theorem Gw.new {H H' H1 : Hp} {e p : Addr} {ld : Int → Int} {R : List (List Int)} {pm : Int → Addr} {i : Nat} {c : List Int} {y : V} (g : Gw H e ld (R.take i) H' pm) (h : R[i]? = some c) (hm : ¬ lead ld c ∈ once ((R.take i).map (lead ld))) (x : Ex H' H1) (np : H' p = none) (hp : H1 p = some (.lst [])) (hpe : p ≠ e) (ht : TkL H1 y c) :
    Gw H e ld (R.take (i + 1)) (upd (upd H1 e (.dK (dkG (once ((R.take i).map (lead ld)) ++ [lead ld c]) (setF (fun m => V.ref (pm m)) (lead ld c) (.ref p))))) p (.lst [y])) (setF pm (lead ld c) p) := by
  have ek : once ((R.take (i + 1)).map (lead ld)) = once ((R.take i).map (lead ld)) ++ [lead ld c] := by
    rw [map_next h, once_out hm]
  have hlen : (R.take (i + 1)).length = (R.take i).length + 1 := by
    rw [List.take_add_one, h, List.length_append]
    rfl
  have hp0 : H p = none := fresh_back g.ex np
  have g1 := g.mono x
  have x1 : ExT H1 (upd (upd H1 e (.dK (dkG (once ((R.take i).map (lead ld)) ++ [lead ld c]) (setF (fun m => V.ref (pm m)) (lead ld c) (.ref p))))) p (.lst [y])) := fun a xs q => by
    rw [upd_ne (ne_of q hp fun z => by cases z), upd_ne (ne_of q g1.he fun z => by cases z)]
    exact q
  have ng : grp (R.take i) ld (lead ld c) = [] := by
    unfold grp
    refine List.filter_eq_nil_iff.mpr fun d hd z => hm (mem_once.mpr (List.mem_map.mpr ⟨d, hd, of_decide_eq_true z⟩))
  have nem : ∀ m ∈ once ((R.take i).map (lead ld)), m ≠ lead ld c := fun m hm' z => hm (by rw [← z]; exact hm')
  have npm : ∀ m ∈ once ((R.take i).map (lead ld)), pm m ≠ p := fun m hm' z => by
    obtain ⟨ys, h1, _⟩ := g.ls m hm'
    rw [z, np] at h1
    cases h1
  have npe : ∀ m ∈ once ((R.take i).map (lead ld)), pm m ≠ e := fun m hm' z => by
    obtain ⟨ys, h1, _⟩ := g.ls m hm'
    rw [z, g.he] at h1
    cases h1
  refine ⟨g.ne, Ex.mut (Ex.mut g1.ex g.ne) hp0, ?_, ?_, ?_, ?_⟩
  · rw [ek, upd_ne hpe.symm, upd_same]
    refine congrArg (fun z => some (HO.dK z)) (dkG_congr fun m _ => ?_)
    unfold setF
    split <;> rfl
  · rw [ek]
    intro m hm'
    rcases List.mem_append.mp hm' with z | z
    · rw [setF_ne _ _ (nem m z)]
      exact g.nf m z
    · obtain rfl : m = lead ld c := by simpa using z
      rw [setF_same]
      exact hp0
  · rw [ek]
    intro m hm'
    rcases List.mem_append.mp hm' with z | z
    · obtain ⟨zs, hz, lz, pz⟩ := g1.ls m z
      rw [setF_ne _ _ (nem m z), upd_ne (npm m z), upd_ne (npe m z)]
      refine ⟨zs, hz, by rw [hlen]; exact Nat.le_succ_of_le lz, ?_⟩
      rw [grp_next h, if_neg fun q => nem m z q.symm, List.append_nil]
      exact paired_imp (fun y c z => z.mono x1) pz
    · obtain rfl : m = lead ld c := by simpa using z
      rw [setF_same]
      refine ⟨_, upd_same, by rw [hlen]; exact Nat.succ_le_succ (Nat.zero_le _), ?_⟩
      rw [grp_next h, if_pos rfl, ng]
      exact .cons (ht.mono x1) .nil
  · rw [ek]
    intro m hm' n hn' en
    rcases List.mem_append.mp hm' with z | z <;> rcases List.mem_append.mp hn' with u | u
    · rw [setF_ne _ _ (nem m z), setF_ne _ _ (nem n u)] at en
      exact g.inj m z n u en
    · obtain rfl : n = lead ld c := by simpa using u
      rw [setF_ne _ _ (nem m z), setF_same] at en
      exact absurd en (npm m z)
    · obtain rfl : m = lead ld c := by simpa using z
      rw [setF_ne _ _ (nem n u), setF_same] at en
      exact absurd en.symm (npm n u)
    · obtain rfl : m = lead ld c := by simpa using z
      obtain rfl : n = lead ld c := by simpa using u
      rfl
def spParts : Sp := fun vs H Q _ => ∃ (v : V) (R : List (List Int)), vs = [v] ∧ TkR H v R ∧ Sm R ∧ ¬ [] ∈ R ∧ ∀ v H', Ex H H' → LsP (fun S H y => TkR H y S) (lawPartsM R) H' v → Q v H'
theorem ex_upd {H H' : Hp} (e : Ex H H') (p : Addr) (o : HO) : Ex (upd H p o) (upd H' p o) := fun a u h => by
  by_cases z : a = p
  · subst z
    rw [upd_same] at h ⊢
    exact h
  · rw [upd_ne z] at h ⊢
    exact e a u h
theorem lead_of_cons {ld : Int → Int} {c : List Int} {l : Int} (h : c.head? = some l) : lead ld c = ld (ab l) := by
  cases c with
  | nil => cases h
  | cons n c =>
    cases h
    rfl
section
variable {P : Program} {w : World} {K : PySem.W.Frag} {mg : Str → Option Value} {base : Heap} {σ : L2.St} {H : Hp} {D : Ends} {tz : TS} {td ty tv te : TE}
abbrev sParts : Stmt := top 12
theorem scParts : FnScope ["residue", "leader", "found", "clause", "first"] ["residue"] (defScope sParts) := ⟨rfl, rfl, rfl, by decide +kernel, rfl, by decide +kernel, by decide +kernel⟩
theorem sp_join {R : List (List Int)} {v : V} {H : Hp} (h : TkR H v R) (hs : Sm R) (hn : ¬ [] ∈ R) : SpP spJoin [v] H (fun H z => ∃ d ld, z = .ref d ∧ H d = some (.dK (dkG (varsM R) fun v => .int (ld v))) ∧ LeadOk R ld) := fun H1 e Q q E =>
  ⟨v, R, rfl, h.mono (ExT.of e), hs, hn, fun d ld H' e' hd L => q _ H' e' ⟨d, ld, rfl, hd, L⟩⟩
theorem et_dnin {d : Addr} {kvs : List (Key × V)} {k : Key} (ho : Ev td σ H (.ref d)) (hi : Ev ty σ H (kV k)) (hd : H d = some (.dK kvs)) : EvT (tB (tDNotIn ty td)) σ H (!(valV kvs k).isSome) := fun H1 e Q q =>
  hi H1 e _ fun H2 e2 => ho H2 (e.trans e2) _ fun H3 e3 => ⟨d, valV kvs k, rfl, DGet.k (((e.trans e2).trans e3) d _ hd), _, rfl, q H3 (e2.trans e3)⟩
theorem ok_parts {f f1 f2 : Addr} {fd fd1 fd2 : FuncData} {k : Nat} (F : FnP K "parts_of" sParts f fd) (bi : Bi mg) (JV : Fn P w K mg base "joined_variables" (k + 2) f1 fd1 ["residue"] spJoin) (RS : Fn P w K mg base "residue_of" (k + 5) f2 fd2 ["clauses"] spRes) : FnOk P w K mg base CX0 (k + 6) f fd ["residue"] spParts := by
  refine F.ok scParts (fun vs H Q E h => ?_) (fun cdv A outer s H vs Q E hr h => ?_)
  · obtain ⟨v, c, rfl, _⟩ := h
    rfl
  · obtain ⟨v, R, rfl, hR, hs, hne, q⟩ := h
    have hR' := hR
    obtain ⟨a, ys, rfl, ha, pr⟩ := hR'
    refine ⟨_, PSs.nox (pss_cons (ps_set (i := 1) scParts.nd rfl (.inl rfl) (JV.pe (hr.mono (by omega)) (by rfl) (pa_cons (pv 0) pa_nil)))
      (pss_cons (ps_set (i := 2) scParts.nd rfl (.inr rfl) pe_dnewK)
      (pss_cons (ps_for PassesOwn.never rfl (pi_tup (pv 0)) (pg_name (i := 3) scParts.nd rfl (.inl rfl))
        (pss_cons (ps_set (i := 4) scParts.nd rfl (.inl rfl) (pe_dget (ru1 hr) (pv 1) (pe_callB call_abs (by rfl) bi.abs (by decide +kernel) (pa_cons (pe_ix ix_tup (pv 3) pe_int (fun _ _ => rfl)) pa_nil)) (fun _ _ => rfl)))
        (pss_cons (ps_if (pt_cmp (pc_dnotin (ru1 hr) (pv 4) (pv 2)) (by rfl)) (pss_one (ps_dput (ru1 hr) (pv 2) (pv 4) (pe_lst pa_nil) (by rfl))) pss_nil)
        (pss_one (ps_expr (pe_bm PySem.F.plainAttrs_list PySem.F.slot_list_append PySem.F.type_list_append mt_append (pe_dget (ru1 hr) (pv 2) (pv 4) (fun _ _ => rfl)) (pa_cons (pv 3) pa_nil)))))))
      (pss_one (ps_ret (pe_lc (own := [("first", 4)]) (g := gName 4) rfl scParts.nd (pi_list (pe_callB cr_sorted (by rfl) bi.sorted (by decide +kernel) (pa_cons (pe_callTy (call_list_dK rfl) (by rfl) bi.list (by decide +kernel) (pa_cons (pv 2) pa_nil)) pa_nil)))
        (blkOk_by (N := ["residue", "leader", "found", "clause", "first"]) (sc := defScope sParts) (by decide +kernel))
        (fun _ _ _ _ _ => pg_name (i := 4) scParts.nd rfl (Or.inl rfl)) (fun _ _ _ _ _ => pts_nil) (fun _ _ _ _ _ => RS.pe hr (by rfl) (pa_cons (pe_dget (ru1 hr) (pv 2) (pv 4) (fun _ _ => rfl)) pa_nil)))))))), ?_⟩
    refine p_asgS (ep_call (ep_a1 (ep_of (P := fun H v => TkR H v R) (ev_var (i := 0) (v := .ref a) rfl) fun H2 e2 => hR.mono (ExT.of e2))) fun vs H2 e2 hv => by
        obtain ⟨z, rfl, hz⟩ := hv
        exact sp_join hz hs hne) fun v H1 e1 hv => ?_
    obtain ⟨d, ld, rfl, hd, L⟩ := hv
    intro e ne1
    have ne0 : H e = none := fresh_back e1 ne1
    have hde : d ≠ e := fun z => by
      rw [z, ne1] at hd
      cases hd
    refine q_forT (K := K) (a := a) (xs := ys) (ev_var (i := 0) rfl) (st_of ((e1.trans (Ex.new ne1)) a _ ha)) (fun i σ' H' => ∃ y3 y4 pm, σ' = [some (.ref a), some (.ref d), some (.ref e), y3, y4] ∧ Ex H1 H' ∧ Gw H1 e ld (R.take i) H' pm)
      (fun H2 e2 => ⟨none, none, fun _ => e, rfl, (Ex.new ne1).trans e2, ⟨ne1, (Ex.new ne1).trans e2, e2 e _ upd_same, (fun m hm => by cases hm), (fun m hm => by cases hm), fun m hm => by cases hm⟩⟩) (fun i σ' H' _ p => by
        obtain ⟨_, _, _, _, e, _⟩ := p
        exact st_of ((e1.trans e) a _ ha)) (fun i x σ' H' hi p => ?_) fun σ' H' p => ?_
    · obtain ⟨y3, y4, pm, rfl, x2, g⟩ := p
      obtain ⟨c, hc, b, rfl, hb⟩ := paired_get pr hi
      have hcR := List.mem_of_getElem? hc
      have hb' := (e1.trans x2) b _ hb
      obtain ⟨l, hl⟩ : ∃ l, c.head? = some l := by
        cases c with
        | nil => exact absurd hcR hne
        | cons l c => exact ⟨l, rfl⟩
      have hlc : l ∈ c := List.mem_of_head? hl
      have hlead : lead ld c = ld (ab l) := lead_of_cons hl
      have hi15 := (List.getElem?_eq_some_iff.mp hc).1
      have hR15 := hs.1
      refine q_asg (v := .int (lead ld c)) (ev_dget (ev_var (i := 1) (v := .ref d) rfl) (ev_cb (ea_cons (ev_op (ev_var (i := 3) (v := .ref b) rfl) ev_c (rv_ixT (st_of hb') (ints_head hl))) ea_nil) rc_abs) (k := .inl (ab l)) (x2 d _ hd) (by rw [dkG_val (ab_vars hcR hlc), hlead])) fun H3 e3 => ?_
      have g3 := g.mono e3
      have hb3 := e3 b _ hb'
      refine q_when (et_dnin (k := .inl (lead ld c)) (ev_var (i := 2) (v := .ref e) rfl) (ev_var (i := 4) (v := .int (lead ld c)) rfl) g3.he) (fun hm H4 e4 => ?_) fun hm H4 e4 => ?_
      · have hm' : ¬ lead ld c ∈ once ((R.take i).map (lead ld)) := fun z => by
          rw [dkG_val z] at hm
          cases hm
        refine ⟨Nat.zero_le _, fun p np => ?_⟩
        have g4 := g3.mono e4
        have x5 : Ex H4 (upd H4 p (.lst [])) := Ex.new np
        have hpe : p ≠ e := fun z => by
          rw [z, g4.he] at np
          cases np
        refine ⟨_, rfl, _, rfl, e, _, rfl, DPut.k (k := .inl (lead ld c)) (x5 e _ g4.he) ?_, ?_⟩
        · rw [dkG_len]
          refine Nat.lt_of_le_of_lt (len_once _) (sz_lt ?_)
          rw [List.length_map, List.length_take]
          omega
        · dsimp only
          rw [dkG_new hm']
          have hp5 : (upd (upd H4 p (.lst [])) e (.dK (dkG (once ((R.take i).map (lead ld)) ++ [lead ld c]) (setF (fun m => V.ref (pm m)) (lead ld c) (.ref p))))) p = some (.lst []) := by
            rw [upd_ne hpe, upd_same]
          refine p_app (K := K) (P := fun H y => y = .ref b ∧ Ex (upd (upd H4 p (.lst [])) e (.dK (dkG (once ((R.take i).map (lead ld)) ++ [lead ld c]) (setF (fun m => V.ref (pm m)) (lead ld c) (.ref p))))) H) hp5 (ev_dget (ev_var (i := 2) (v := .ref e) rfl) (ev_var (i := 4) (v := .int (lead ld c)) rfl) (k := .inl (lead ld c)) upd_same (by rw [dkG_val (by simp), setF_same])) (ep_of (ev_var (i := 3) (v := .ref b) rfl) fun H6 e6 => ⟨rfl, e6⟩) (by decide) fun v H6 e6 hv => ?_
          obtain ⟨rfl, _⟩ := hv
          have tb : TkL (upd H4 p (.lst [])) (.ref b) c := ⟨b, rfl, x5 b _ (e4 b _ hb3)⟩
          have g7 := (g4.new hc hm' x5 np upd_same hpe tb).mono (ex_upd e6 p (.lst [.ref b]))
          exact ⟨_, _, _, rfl, g7.ex, g7⟩
      · have hm' : lead ld c ∈ once ((R.take i).map (lead ld)) := Classical.byContradiction fun z => by
          rw [dkG_none z] at hm
          cases hm
        have g4 := g3.mono e4
        obtain ⟨zs, hz, lz, pz⟩ := g4.ls _ hm'
        refine p_app (K := K) (P := fun H y => TkL H y c) hz (ev_dget (ev_var (i := 2) (v := .ref e) rfl) (ev_var (i := 4) (v := .int (lead ld c)) rfl) (k := .inl (lead ld c)) g4.he (dkG_val hm')) (ep_of (ev_var (i := 3) (v := .ref b) rfl) fun H6 e6 => ⟨b, rfl, (e4.trans e6) b _ hb3⟩) (by rw [List.length_take] at lz; omega) fun v H6 e6 hv => ?_
        have g6 := (g4.mono e6).app hc hm' (e6 _ _ hz) hv
        exact ⟨_, _, pm, rfl, g6.ex, g6⟩
    · obtain ⟨y3, y4, pm, rfl, x2, g⟩ := p
      rw [Paired.length pr, List.take_length] at g
      have hnR : ∀ c ∈ R, c ≠ [] := fun c hc z => hne (by rw [← z]; exact hc)
      have hms := parts_eq L hnR (srtI_perm (once (R.map (lead ld)))) (srtI_pw _)
      refine p_ret (P := LsP (fun S H y => TkR H y S) (lawPartsM R)) ?_ fun v H3 e3 h3 => q v H3 ((e1.trans x2).trans e3) h3
      rw [← hms, ← fm_some (fun m => resM (grp R ld m)) (srtI (once (R.map (lead ld))))]
      refine ep_lcL (σ := [some (.ref a), some (.ref d), some (.ref e), y3, y4]) (vs := [4]) (j := 4) (P0 := fun y m => y = V.int m ∧ m ∈ once (R.map (lead ld))) (xs := (srtI (once (R.map (lead ld)))).map V.int) (as := srtI (once (R.map (lead ld)))) (fun m => some (resM (grp R ld m))) stb_R ?_ ?_ ?_ (fun x => rfl) (fun x l H1 _ _ _ => ey) fun x m b' H6 e6 p0 _ hb2 => ?_
      · refine ep_cb (ep_a1 (ep_cb (P := fun H z => ∃ l, z = .ref l ∧ H l = some (.lst ((once (R.map (lead ld))).map V.int))) (ep_a1 (ep_of (P := fun H z => z = .ref e ∧ H e = some (.dK (dkG (once (R.map (lead ld))) fun m => .ref (pm m)))) (ev_var (i := 2) rfl) fun H2 e2 => ⟨rfl, e2 e _ g.he⟩)) fun vs H2 e2 hv => ?_)) fun vs H2 e2 hv => ?_
        · obtain ⟨z, rfl, rfl, hz⟩ := hv
          refine fun Q q => ⟨e, _, rfl, hz, fun l nl => q _ _ (Ex.new nl) ⟨l, rfl, ?_⟩⟩
          rw [upd_same]
          unfold dkG
          rw [List.map_map]
          rfl
        · obtain ⟨z, rfl, l, rfl, hl⟩ := hv
          refine fun Q q => ⟨l, once (R.map (lead ld)), rfl, sq_of hl, ?_, fun ns' p pm pw np => q _ _ (Ex.new np) ⟨p, rfl, ?_⟩⟩
          · have h1 := len_once (R.map (lead ld))
            rw [List.length_map] at h1
            have := hs.1
            omega
          · rw [srtI_of pm pw]
            exact sq_of upd_same
      · have h : ∀ ns : List Int, (∀ n ∈ ns, n ∈ once (R.map (lead ld))) → Paired (fun y n => y = V.int n ∧ n ∈ once (R.map (lead ld))) (ns.map V.int) ns := fun ns => by
          induction ns with
          | nil => exact fun _ => .nil
          | cons n ns ih => exact fun h => .cons ⟨rfl, h n List.mem_cons_self⟩ (ih fun m hm => h m (List.mem_cons_of_mem _ hm))
        exact h _ fun _ h => mem_srtI.mp h
      · rw [List.length_map, (srtI_perm _).length_eq]
        have h1 := len_once (R.map (lead ld))
        rw [List.length_map] at h1
        have := hs.1
        omega
      · obtain ⟨rfl, hm⟩ := p0
        have eb := Option.some.inj hb2
        subst eb
        have g6 := g.mono e6
        obtain ⟨zs, hz, lz, pz⟩ := g6.ls m hm
        refine ep_call (ep_a1 (ep_of (P := ClsP (grp R ld m)) (ev_dget (ev_var (i := 2) (v := .ref e) rfl) (ev_var (i := 4) (v := .int m) rfl) (k := .inl m) g6.he (dkG_val hm)) fun H7 e7 => ClsP.mono e7 ⟨_, zs, rfl, hz, pz⟩)) fun vs H7 e7 hv => ?_
        obtain ⟨z, rfl, hz7⟩ := hv
        exact sp_resS hz7 (hs.sub (List.length_filter_le _ R) fun c hc => hs.2 c (List.mem_filter.mp hc).1)
end
end Cw

set_option Elab.async false
set_option linter.all false
set_option maxRecDepth 100000
set_option maxHeartbeats 2000000
/-! The law's own defs: keys, once, residues, given, units. -/
namespace Cw
open PySem PySem.Spec PyProof.Rows L2 Evl

abbrev wTake : Stmt := top 18
abbrev wKey : Stmt := top 19
abbrev wOnce : Stmt := top 20
abbrev wClKey : Stmt := top 22
abbrev wRes : Stmt := top 23
abbrev wGiven : Stmt := top 24
abbrev wUnits : Stmt := top 29
section
variable {P : Program} {w : World} {K : PySem.W.Frag} {mg : Str → Option Value} {base : Heap}
def rInt1 : List V → Hp → VK → Prop := fun xs H Q => (∃ i, xs = [.int i] ∧ Q (.int i) H) ∨ ∃ k, xs = [.bl k] ∧ Q (.int (if k then 1 else 0)) H
theorem rc_int {i : Int} {H : Hp} : RC rInt1 [.int i] H (.int i) := fun H1 e Q q => .inl ⟨i, rfl, q H1 (Ex.refl H1)⟩
theorem rc_intB {b : Bool} {H : Hp} : RC rInt1 [.bl b] H (.int (if b then 1 else 0)) := fun H1 e Q q => .inr ⟨b, rfl, q H1 (Ex.refl H1)⟩
theorem scWKey : FnScope ["_law_literal_here"] ["_law_literal_here"] (defScope wKey) := ⟨rfl, rfl, rfl, by decide +kernel, rfl, by decide +kernel, by decide +kernel⟩
theorem ok_wkey {f : Addr} {fd : FuncData} {k : Nat} (F : FnP K "_law_key" wKey f fd) (bi : Bi mg) : FnOk P w K mg base CX0 (k + 1) f fd ["_law_literal_here"] spLK := by
  refine F.ok scWKey (fun vs H Q E h => ?_) (fun cdv A outer s H vs Q E hr h => ?_)
  · obtain ⟨l, rfl, _⟩ := h
    rfl
  · obtain ⟨l, rfl, q⟩ := h
    refine ⟨_, PSs.nox (pss_one (ps_ret (pe_tup (pa_cons (pe_callB call_abs (by rfl) bi.abs (by decide +kernel) (pa_cons (pv 0) pa_nil)) (pa_cons (pe_callTy (T := "int") (r := rInt1) call_int1 (by rfl) bi.int (by decide +kernel) (pa_cons (pe_cmpR op_gt (pv 0) pe_int (nomark _)) pa_nil)) pa_nil))))), ?_⟩
    refine p_ret (P := fun H v => TkL H v (lk l)) (ep_tup (PA := fun _ vs => vs = [.int (ab l), .int (if decide (0 < l) = true then 1 else 0)]) (fun H1 e Q q => (ea_cons (ev_cb (ea_cons (ev_var (v := .int l) rfl) ea_nil) rc_abs) (ea_cons (ev_cb (ea_cons (ev_op (ev_var (v := .int l) rfl) ev_c rv_I0) ea_nil) rc_intB) ea_nil)) H1 e Q fun H2 e2 => q _ H2 e2 rfl) (fun vs H1 hv => by rw [hv]; show 2 ≤ 100000; decide) fun vs H1 p e hv np => ⟨p, rfl, ?_⟩) q
    rw [upd_same, hv]
    unfold lk
    by_cases h0 : 0 < l
    · rw [if_pos h0, if_pos (decide_eq_true h0)]
      rfl
    · rw [if_neg h0, if_neg fun z => h0 (of_decide_eq_true z)]
      rfl
theorem scWClKey : FnScope ["_law_clause_here", "_law_literal_here"] ["_law_clause_here"] (defScope wClKey) := ⟨rfl, rfl, rfl, by decide +kernel, rfl, by decide +kernel, by decide +kernel⟩
theorem ok_wclkey {f f1 : Addr} {fd fd1 : FuncData} {k : Nat} (F : FnP K "_law_clause_key" wClKey f fd) (bi : Bi mg) (LK : Fn P w K mg base "_law_key" (k + 1) f1 fd1 ["_law_literal_here"] spLK) : FnOk P w K mg base CX0 (k + 2) f fd ["_law_clause_here"] spCK := by
  refine F.ok scWClKey (fun vs H Q E h => ?_) (fun cdv A outer s H vs Q E hr h => ?_)
  · obtain ⟨v, c, rfl, _⟩ := h
    rfl
  · obtain ⟨v, c, rfl, hc, hl, q⟩ := h
    obtain ⟨a, rfl, ha⟩ := hc
    refine ⟨_, PSs.nox (pss_one (ps_ret (pe_callTy call_tuple_of (by rfl) bi.tuple (by decide +kernel) (pa_cons (pe_lc (own := [("_law_literal_here", 1)]) (g := gName 1) (tt := tYes) rfl scWClKey.nd (pi_tup (pv 0)) (blkOk_by (N := ["_law_clause_here", "_law_literal_here"]) (sc := defScope wClKey) (by decide +kernel))
      (fun _ _ _ _ _ => pg_name (i := 1) scWClKey.nd rfl (Or.inl rfl)) (fun _ _ _ _ _ => pts_nil) (fun _ _ _ _ _ => LK.pe hr (by rfl) (pa_cons (pv 1) pa_nil))) pa_nil)))), ?_⟩
    refine p_ret (P := fun H v => TkR H v (c.map lk)) (ep_imp (ep_tuple (Pb := fun d H y => TkL H y d) (bs := c.map lk) stb_tkl ?_) fun w H1 _ h => h.cls) q
    rw [← fm_some lk c]
    refine ep_lcT (σ := [some (.ref a), none]) (vs := [1]) (j := 1) (P0 := fun y n => y = V.int n) (xs := c.map V.int) (fun l => some (lk l)) stb_tkl (ep_of (ev_var (i := 0) (v := .ref a) rfl) fun H1 e => ⟨a, rfl, st_of (e a _ ha)⟩) (ints_paired c) (by rw [List.length_map]; omega) (fun x => rfl) (fun x l H1 _ _ _ => ey) fun x l b H1 e p0 _ hb => ?_
    have eb : lk l = b := Option.some.inj hb
    subst eb p0
    exact ep_call (ep_a1 (ep_of (P := fun _ z => z = V.int l) (ev_var rfl) fun _ _ => rfl)) fun vs H2 _ hv => by
      obtain ⟨z, rfl, rfl⟩ := hv
      exact spLK_P
/-! ### once -/
structure Enc (K : PySem.W.Frag) {β : Type} (Pb : β → Hp → V → Prop) (enc : β → PyData) : Prop where
  stb : ∀ b, Stb (Pb b)
  dp : ∀ b H v, Pb b H v → Dp K H v (enc b)
  sh : ∀ b, SeqAt.shaped (enc b) = true
  shL : ∀ bs : List β, SeqAt.shaped (.list (bs.map enc)) = true
theorem enc_I : Enc K (fun n _ y => y = V.int n) PyData.int := ⟨stb_int, fun b H v h => by rw [h]; exact .int b, fun b => shaped_of (by simp [PyData.canLay0]) (by simp [PyData.depth]), shaped_Li⟩
theorem enc_C : Enc K (fun c H y => TkL H y c) dI := ⟨stb_L, fun b H v h => h.dp, shaped_I, shaped_LI⟩
def spOnce (K : PySem.W.Frag) : Sp := fun vs H Q _ => ∃ (v : V) (β : Type) (dq : DecidableEq β) (bs : List β) (Pb : β → Hp → V → Prop) (enc : β → PyData), vs = [v] ∧ Enc K Pb enc ∧ (∀ a b, PyData.eqv (enc a) (enc b) = decide (a = b)) ∧ LsP Pb bs H v ∧ bs.length ≤ 60 ∧ ∀ v H', Ex H H' → LsP Pb (once bs) H' v → Q v H'
theorem any_enc {β : Type} [DecidableEq β] {enc : β → PyData} (h : ∀ a b, PyData.eqv (enc a) (enc b) = decide (a = b)) (c : β) (R : List β) : ((R.map enc).any fun z => PyData.eqv z (enc c)) = decide (c ∈ R) := by
  rw [List.any_map]
  induction R with
  | nil => rfl
  | cons d R ih =>
    rw [List.any_cons, ih]
    show (PyData.eqv (enc d) (enc c) || decide (c ∈ R)) = _
    rw [h, ← Bool.decide_or]
    exact decide_eq_decide.mpr (by rw [List.mem_cons]; exact ⟨fun h => h.imp Eq.symm id, fun h => h.imp Eq.symm id⟩)
def Ow {β : Type} [DecidableEq β] (H : Hp) (Pb : β → Hp → V → Prop) (bs : List β) (r : Addr) (i : Nat) (H' : Hp) : Prop := H r = none ∧ Ex H H' ∧ ∃ ys, H' r = some (.lst ys) ∧ ys.length ≤ i ∧ Paired (fun y b => Pb b H' y) ys (once (bs.take i))
theorem scWOnce : FnScope ["_law_row", "_law_found", "_law_item"] ["_law_row"] (defScope wOnce) := ⟨rfl, rfl, rfl, by decide +kernel, rfl, by decide +kernel, by decide +kernel⟩
theorem ok_wonce {f : Addr} {fd : FuncData} {k : Nat} (F : FnP K "_law_once" wOnce f fd) : FnOk P w K mg base CX0 (k + 1) f fd ["_law_row"] (spOnce K) := by
  refine F.ok scWOnce (fun vs H Q E h => ?_) (fun cdv A outer s H vs Q E hr h => ?_)
  · obtain ⟨l, _, _, _, _, _, rfl, _⟩ := h
    rfl
  · obtain ⟨v, β, dq, bs, Pb, enc, rfl, EN, heq, hv, hl, q⟩ := h
    obtain ⟨a, xs, rfl, ha, pr⟩ := hv
    refine ⟨_, PSs.nox (pss_cons (ps_set (i := 1) scWOnce.nd rfl (.inl rfl) (pe_lst pa_nil))
      (pss_cons (ps_for PassesOwn.never rfl (pi_list (pv 0)) (pg_name (i := 2) scWOnce.nd rfl (.inl rfl))
        (pss_one (ps_if (pt_cmpR (op_notInD (ru65 hr)) (pv 2) (pv 1) (by rfl)) (pss_one (ps_expr (pe_bm PySem.F.plainAttrs_list PySem.F.slot_list_append PySem.F.type_list_append mt_append (pv 1) (pa_cons (pv 2) pa_nil)))) pss_nil)))
      (pss_one (ps_ret (pv 1))))), ?_⟩
    refine q_asgL (el_lst ea_nil (by decide)) fun r H1 nr e1 hr1 => ?_
    refine q_forL (K := K) (a := a) (xs := xs) (ev_var (i := 0) rfl) (sq_of (e1 a _ ha)) (fun i σ' H' => (∃ y2, σ' = [some (.ref a), some (.ref r), y2]) ∧ Ow H Pb bs r i H')
      (fun H2 e2 => ⟨⟨none, rfl⟩, nr, e1.trans e2, [], e2 r _ hr1, Nat.le_refl _, by rw [List.take_zero]; exact .nil⟩) (fun i σ' H' _ p => sq_of (p.2.2.1 a _ ha)) (fun i x σ' H' hi p => ?_) fun σ' H' p => ?_
    · obtain ⟨⟨y2, rfl⟩, nD, e0, zs, hz, hzl, pz⟩ := p
      obtain ⟨b, hb, pb⟩ := paired_get pr hi
      have hi60 := (List.getElem?_eq_some_iff.mp hb).1
      have eb : once (bs.take (i + 1)) = onceStep (once (bs.take i)) b := by
        rw [List.take_add_one, hb]
        exact once_snoc _ _
      refine s_when (b := !decide (b ∈ once (bs.take i))) (et_test (ev_op (ev_var (i := 2) (v := x) rfl) (ev_var (i := 1) (v := .ref r) rfl) fun H2 e2 Q q => ?_)) (fun hm H2 e2 => ?_) fun hm H2 e2 => ?_
      · refine ⟨enc b, (once (bs.take i)).map enc, EN.dp b H2 x (EN.stb b _ _ x (ExT.of (e0.trans e2)) pb), .lst (sq_of (e2 r _ hz)) (dp_all (fun y b h => EN.dp b H2 y h) (paired_imp (fun y b z => EN.stb b _ _ y (ExT.of e2) z) pz)), EN.sh b, EN.shL _, ?_⟩
        rw [any_enc heq]
        exact q H2 (Ex.refl H2)
      · have hm' : ¬ b ∈ once (bs.take i) := fun z => by
          rw [decide_eq_true z] at hm
          cases hm
        refine p_app (K := K) (P := fun H y => Pb b H y) (e2 r _ hz) (ev_var (i := 1) rfl) (ep_of (ev_var (i := 2) (v := x) rfl) fun H4 e4 => EN.stb b _ _ x (ExT.of ((e0.trans e2).trans e4)) pb) (by omega) fun v H4 e4 hv => ⟨⟨_, rfl⟩, nD, Ex.mut ((e0.trans e2).trans e4) nD, _, upd_same, by rw [List.length_append]; exact Nat.succ_le_succ hzl, ?_⟩
        rw [eb]
        unfold onceStep
        rw [if_neg hm']
        have x4 : ExT H4 (upd H4 r (.lst (zs ++ [v]))) := ExT.lst (e4 r _ (e2 r _ hz))
        exact paired_snoc (F := fun y b => Pb b (upd H4 r (.lst (zs ++ [v]))) y) (EN.stb b _ _ v x4 hv) (paired_imp (fun y b z => EN.stb b _ _ y ((ExT.of (e2.trans e4)).trans x4) z) pz)
      · have hm' : b ∈ once (bs.take i) := Classical.byContradiction fun z => by
          rw [decide_eq_false z] at hm
          cases hm
        refine ⟨⟨_, rfl⟩, nD, e0.trans e2, zs, e2 r _ hz, Nat.le_succ_of_le hzl, ?_⟩
        rw [eb]
        unfold onceStep
        rw [if_pos hm']
        exact paired_imp (fun y b z => EN.stb b _ _ y (ExT.of e2) z) pz
    · obtain ⟨⟨y2, rfl⟩, nD, e0, zs, hz, hzl, pz⟩ := p
      rw [Paired.length pr, List.take_length] at pz
      exact p_ret (P := LsP Pb (once bs)) (ep_of (ev_var (i := 1) (v := .ref r) rfl) fun H2 e2 => ⟨r, zs, rfl, e2 r _ hz, paired_imp (fun y b z => EN.stb b _ _ y (ExT.of e2) z) pz⟩) fun v H2 e2 h2 => q v H2 (e0.trans e2) h2
theorem LsP.mono {β : Type} {Pb : β → Hp → V → Prop} {bs : List β} {H H' : Hp} {v : V} (hs : ∀ b, Stb (Pb b)) (e : Ex H H') (h : LsP Pb bs H v) : LsP Pb bs H' v := by
  obtain ⟨p, ys, rfl, hp, pr⟩ := h
  exact ⟨p, ys, rfl, e p _ hp, paired_imp (fun y b z => hs b _ _ y (ExT.of e) z) pr⟩
theorem sp_once {β : Type} [dq : DecidableEq β] {bs : List β} {Pb : β → Hp → V → Prop} {enc : β → PyData} {v : V} {H : Hp} (EN : Enc K Pb enc) (heq : ∀ a b, PyData.eqv (enc a) (enc b) = decide (a = b)) (h : LsP Pb bs H v) (hl : bs.length ≤ 60) : SpP (spOnce K) [v] H (LsP Pb (once bs)) := fun H1 e Q q E =>
  ⟨v, β, dq, bs, Pb, enc, rfl, EN, heq, h.mono EN.stb e, hl, q⟩
theorem scWRes : FnScope ["_law_clauses_here"] ["_law_clauses_here"] (defScope wRes) := ⟨rfl, rfl, rfl, by decide +kernel, rfl, by decide +kernel, by decide +kernel⟩
theorem ok_wres {f f1 f2 : Addr} {fd fd1 fd2 : FuncData} {k : Nat} (F : FnP K "_law_residue" wRes f fd) (bi : Bi mg) (ON : Fn P w K mg base "_law_once" (k + 1) f2 fd2 ["_law_row"] (spOnce K)) (CK : Fn P w K mg base "_law_clause_key" (k + 2) f1 fd1 ["_law_clause_here"] spCK) : FnOk P w K mg base CX0 (k + 5) f fd ["_law_clauses_here"] spRes := by
  refine F.ok scWRes (fun vs H Q E h => ?_) (fun cdv A outer s H vs Q E hr h => ?_)
  · obtain ⟨v, c, rfl, _⟩ := h
    rfl
  · obtain ⟨v, cs, rfl, hc, hl, h1, q⟩ := h
    refine ⟨_, PSs.nox (pss_one (ps_ret (pe_callTy call_tuple_of (by rfl) bi.tuple (by decide +kernel) (pa_cons (pe_callBK (cr_sortedF CK.ok hr CK.b) (by rfl) bi.sorted (by decide +kernel) (pa_cons (ON.pe (hr.mono (by omega)) (by rfl) (pa_cons (pv 0) pa_nil)) pa_nil) (pk_cons (CK.glob (by rfl)) pk_nil)) pa_nil)))), ?_⟩
    refine p_ret (P := fun H v => TkR H v (resM cs)) (ep_imp (ep_tuple (Pb := fun d H y => TkL H y d) stb_tkl (ep_ckw (ep_a1 (ep_call (P := ClsP (once cs)) (ep_a1 (ep_of (P := ClsP cs) (ev_var (i := 0) (v := v) rfl) fun H2 e2 => hc.mono e2)) fun vs H2 e2 hv => ?_)) fun vs H2 e2 hv => ?_)) fun w H1 _ h => h.cls) q
    · obtain ⟨z, rfl, hz⟩ := hv
      exact sp_once enc_C eqv_I hz hl
    · obtain ⟨z, rfl, hz⟩ := hv
      exact rc_srt stb_tkl hz (ko_ck fun c hc => h1 c (mem_once.mp hc))
theorem scWGiven : FnScope ["_law_residue_here", "_law_literal_here", "_law_rows", "_law_clause_here", "_law_other"] ["_law_residue_here", "_law_literal_here"] (defScope wGiven) := ⟨rfl, rfl, rfl, by decide +kernel, rfl, by decide +kernel, by decide +kernel⟩
theorem ok_wgiven {f f1 : Addr} {fd fd1 : FuncData} {k : Nat} (F : FnP K "_law_given" wGiven f fd) (bi : Bi mg) (RS : Fn P w K mg base "_law_residue" (k + 5) f1 fd1 ["_law_clauses_here"] spRes) : FnOk P w K mg base CX0 (k + 6) f fd ["_law_residue_here", "_law_literal_here"] spUnd := by
  refine F.ok scWGiven (fun vs H Q E h => ?_) (fun cdv A outer s H vs Q E hr h => ?_)
  · obtain ⟨v, l, c, rfl, _⟩ := h
    rfl
  · obtain ⟨v, l, R, rfl, hR, hs, q⟩ := h
    obtain ⟨a, ys, rfl, ha, pr⟩ := hR
    refine ⟨_, PSs.nox (pss_cons (ps_set (i := 2) scWGiven.nd rfl (.inl rfl) (pe_lst pa_nil))
      (pss_cons (ps_for PassesOwn.never rfl (pi_tup (pv 0)) (pg_name (i := 3) scWGiven.nd rfl (.inl rfl))
        (pss_one (ps_if (pt_cmpR op_notIn_seq (pv 1) (pv 3) (by rfl))
            (pss_one (ps_expr (pe_bm PySem.F.plainAttrs_list PySem.F.slot_list_append PySem.F.type_list_append mt_append (pv 2) (pa_cons (pe_callTy call_tuple_of (by rfl) bi.tuple (by decide +kernel) (pa_cons
              (pe_lc (own := [("_law_other", 4)]) (g := gName 4) rfl scWGiven.nd (pi_tup (pv 3)) (blkOk_by (N := ["_law_residue_here", "_law_literal_here", "_law_rows", "_law_clause_here", "_law_other"]) (sc := defScope wGiven) (by decide +kernel))
                (fun _ _ _ _ _ => pg_name (i := 4) scWGiven.nd rfl (Or.inl rfl)) (fun _ _ _ _ _ => pts_one (pt_cmpR op_ne (pv 4) (pe_un un_neg (pv 1)) (nomark _))) (fun _ _ _ _ _ => pv 4)) pa_nil)) pa_nil))))
          pss_nil)))
      (pss_one (ps_ret (RS.pe hr (by rfl) (pa_cons (pv 2) pa_nil)))))), ?_⟩
    refine q_asgL (el_lst ea_nil (by decide)) fun r H1 nr e1 hr1 => ?_
    refine q_forT (K := K) (a := a) (xs := ys) (ev_var (i := 0) rfl) (st_of (e1 a _ ha)) (fun i σ' H' => (∃ y3, σ' = [some (.ref a), some (.int l), some (.ref r), y3, none]) ∧ Lcw H (fun c H y => TkL H y c) (cutM l) R r i H')
      (fun H2 e2 => ⟨⟨none, rfl⟩, lcw_start (e1.trans e2) nr (e2 r _ hr1)⟩) (fun i σ' H' _ p => st_of (lcw_ex p.2 a _ ha)) (fun i x σ' H' hi p => ?_) fun σ' H' p => ?_
    · obtain ⟨⟨y3, rfl⟩, w⟩ := p
      obtain ⟨c, hc, b, rfl, hb⟩ := paired_get pr hi
      have hcl := hs.2 c (List.mem_of_getElem? hc)
      have hi5 := (List.getElem?_eq_some_iff.mp hc).1
      have hR := hs.1
      have hb' := lcw_ex w b _ hb
      obtain ⟨zs, hz, hzl⟩ := lcw_get w
      refine s_when (b := !decide (l ∈ c)) (et_test (ev_op (ev_var (i := 1) (v := .int l) rfl) (ev_var (i := 3) (v := .ref b) rfl) (rv_niI hb'))) (fun hn H2 e2 => ?_) fun hn H2 e2 => ?_
      · have hn' : ¬ l ∈ c := fun z => by
          rw [decide_eq_true z] at hn
          cases hn
        refine p_app (K := K) (P := fun H y => TkL H y (c.filter fun x => decide (x ≠ -l))) (e2 r _ hz) (ev_var (i := 2) rfl) (ep_imp (ep_tuple stb_int (ep_filt (e2 b _ hb') (i := 3) rfl (by omega) (fun _ => rfl) (fun _ => rfl) fun _ => rfl)) fun w H1 _ h => h.ints) (by omega) fun v H4 e4 hv => ⟨⟨_, rfl⟩, ?_⟩
        exact lcw_app stb_tk w hc (by unfold cutM; rw [if_neg hn']) hz (e2.trans e4) hv
      · have hn' : l ∈ c := Classical.byContradiction fun z => by
          rw [decide_eq_false z] at hn
          cases hn
        exact ⟨⟨_, rfl⟩, lcw_skip stb_tk w hc (by unfold cutM; rw [if_pos hn']) e2⟩
    · obtain ⟨⟨y3, rfl⟩, w⟩ := p
      rw [Paired.length pr] at w
      have w2 : ClsP (R.filterMap (cutM l)) H' (.ref r) := lcw_end w
      exact p_ret (P := fun H v => TkR H v (givenM R l)) (ep_call (ep_a1 (ep_of (P := ClsP (R.filterMap (cutM l))) (ev_var (i := 2) rfl) fun H2 e2 => w2.mono e2)) fun vs H2 e2 hv => by
        obtain ⟨z, rfl, hz⟩ := hv
        exact sp_resS hz (sm_cut hs l)) fun v H2 e2 h2 => q v H2 ((lcw_ex w).trans e2) h2
theorem scWUnits : FnScope ["_law_residue_here", "_law_clause_here"] ["_law_residue_here"] (defScope wUnits) := ⟨rfl, rfl, rfl, by decide +kernel, rfl, by decide +kernel, by decide +kernel⟩
theorem ok_wunits {f f1 : Addr} {fd fd1 : FuncData} {k : Nat} (F : FnP K "_law_units" wUnits f fd) (bi : Bi mg) (LK : Fn P w K mg base "_law_key" (k + 1) f1 fd1 ["_law_literal_here"] spLK) : FnOk P w K mg base CX0 (k + 4) f fd ["_law_residue_here"] spUn := by
  refine F.ok scWUnits (fun vs H Q E h => ?_) (fun cdv A outer s H vs Q E hr h => ?_)
  · obtain ⟨v, c, rfl, _⟩ := h
    rfl
  · obtain ⟨v, R, rfl, hR, hs, q⟩ := h
    have hR' := hR
    obtain ⟨a, ys, rfl, ha, pr⟩ := hR'
    refine ⟨_, PSs.nox (pss_one (ps_ret (pe_callTy call_tuple_of (by rfl) bi.tuple (by decide +kernel) (pa_cons (pe_callBK (cr_sortedF LK.ok hr LK.b) (by rfl) bi.sorted (by decide +kernel) (pa_cons
      (pe_lc (own := [("_law_clause_here", 1)]) (g := gName 1) rfl scWUnits.nd (pi_tup (pv 0)) (blkOk_by (N := ["_law_residue_here", "_law_clause_here"]) (sc := defScope wUnits) (by decide +kernel))
        (fun _ _ _ _ _ => pg_name (i := 1) scWUnits.nd rfl (Or.inl rfl)) (fun _ _ _ _ _ => pts_one (pt_cmpR op_eq (pe_callB (id := "len") (r := rLenS K) call_len_seq (by rfl) bi.len (by decide +kernel) (pa_cons (pv 1) pa_nil)) pe_int (nomark _))) (fun _ _ _ _ _ => pe_ix (r := rIxT K) ix_tup (pv 1) pe_int (fun _ _ => rfl))) pa_nil) (pk_cons (LK.glob (by rfl)) pk_nil)) pa_nil)))), ?_⟩
    refine p_ret (P := fun H v => TkL H v (unitsM R)) (ep_imp (ep_tuple (Pb := fun n _ y => y = V.int n) (bs := unitsM R) stb_int (ep_ckw (ep_a1 (P1 := LsP (fun n _ y => y = V.int n) (R.filterMap oneM)) (ep_ones (σ := [some (.ref a), none]) (vs := [1]) (a := a) (i := 0) (j := 1) hR rfl (Nat.le_trans hs.1 (by decide)) (fun _ => rfl) fun _ => rfl)) fun vs H2 e2 hv => ?_)) fun w H1 _ h => h.ints) q
    obtain ⟨z, rfl, hz⟩ := hv
    exact rc_srt stb_int hz ko_lk
end
end Cw

set_option Elab.async false
set_option linter.all false
set_option maxRecDepth 100000
set_option maxHeartbeats 2000000
/-! The law's own defs: variables, propagated, lessened. -/
namespace Cw
open PySem PySem.Spec PyProof.Rows L2 Evl

abbrev wVars : Stmt := top 25
abbrev wProp : Stmt := top 30
abbrev wLess : Stmt := top 32
/-- over a list or a tuple -/
def iSeq (K : PySem.W.Frag) (tl : TE) : TI := fun σ H R => iList K tl σ H R ∨ iTup K tl σ H R
theorem pi_seq {X : Cx} {tg l : Expr} {tl : TE} (hl : PE X l tl) : PI X tg l (iSeq X.K tl) :=
  ⟨fun pins s σ H R I h => by
    rcases h with h | h
    · exact (pi_list hl).run pins s σ H R I h
    · exact (pi_tup hl).run pins s σ H R I h⟩
/-- clauses in a list or a tuple -/
def SeqR (H : Hp) (v : V) (R : List (List Int)) : Prop := TkR H v R ∨ ClsP R H v
theorem SeqR.mono {H H' : Hp} {v : V} {R : List (List Int)} (e : Ex H H') (h : SeqR H v R) : SeqR H' v R := h.imp (fun h => h.mono (ExT.of e)) fun h => ClsP.mono e h
def spVarL : Sp := fun vs H Q _ => ∃ (v : V) (R : List (List Int)), vs = [v] ∧ SeqR H v R ∧ Sm R ∧ ∀ v H', Ex H H' → TkL H' v (varsM R) → Q v H'
section
variable {P : Program} {w : World} {K : PySem.W.Frag} {mg : Str → Option Value} {base : Heap} {σ : L2.St} {H : Hp}
theorem q_forS {a : Addr} {xs : List V} {tl : TE} {g : TG} {tu tz : TS} {D : Ends} (h : Ev tl σ H (.ref a)) (hx : H a = some (.lst xs) ∨ H a = some (.tup xs)) (Pv : Nat → L2.St → Hp → Prop) (h0 : ∀ H1, Ex H H1 → Pv 0 σ H1) (hl : ∀ i σ' H', Pv i σ' H' → Ex H H')
    (hs : ∀ i x σ' H', xs[i]? = some x → Pv i σ' H' → g x σ' H' fun σ2 H2 => tu { D with nx := Pv (i + 1), ct := Pv (i + 1), bk := tz D } σ2 H2) (hd : ∀ σ' H', Pv xs.length σ' H' → tz D σ' H') : tSeq (tFor (iSeq K tl) g tu) tz D σ H := by
  rcases hx with hx | hx
  · exact Or.inl (q_forL (K := K) (tz := tz) (D := D) h (sq_of hx) Pv h0 (fun i σ' H' _ p => sq_of (hl i σ' H' p a _ hx)) hs hd)
  · exact Or.inr (q_forT (K := K) (tz := tz) (D := D) h (st_of hx) Pv h0 (fun i σ' H' _ p => st_of (hl i σ' H' p a _ hx)) hs hd)
theorem scWVars : FnScope ["_law_residue_here", "_law_found", "_law_clause_here", "_law_literal_here"] ["_law_residue_here"] (defScope wVars) := ⟨rfl, rfl, rfl, by decide +kernel, rfl, by decide +kernel, by decide +kernel⟩
theorem ok_wvars {f : Addr} {fd : FuncData} {k : Nat} (F : FnP K "_law_variables" wVars f fd) (bi : Bi mg) : FnOk P w K mg base CX0 (k + 1) f fd ["_law_residue_here"] spVarL := by
  refine F.ok scWVars (fun vs H Q E h => ?_) (fun cdv A outer s H vs Q E hr h => ?_)
  · obtain ⟨v, c, rfl, _⟩ := h
    rfl
  · obtain ⟨v, R, rfl, hR, hs, q⟩ := h
    obtain ⟨a, ys, rfl, ha, pr⟩ : ∃ a ys, v = .ref a ∧ (H a = some (.lst ys) ∨ H a = some (.tup ys)) ∧ Paired (TkL H) ys R := by
      rcases hR with ⟨a, ys, e, h, p⟩ | ⟨a, ys, e, h, p⟩
      · exact ⟨a, ys, e, .inr h, p⟩
      · exact ⟨a, ys, e, .inl h, p⟩
    refine ⟨_, PSs.nox (pss_cons (ps_set (i := 1) scWVars.nd rfl (.inl rfl) (pe_lst pa_nil))
      (pss_cons (ps_for PassesOwn.never rfl (pi_seq (pv 0)) (pg_name (i := 2) scWVars.nd rfl (.inl rfl))
        (pss_one (ps_set (i := 1) scWVars.nd rfl (.inl rfl) (pe_op op_cat (pv 1) (pe_lc (own := [("_law_literal_here", 3)]) (g := gName 3) rfl scWVars.nd (pi_tup (pv 2)) (blkOk_by (N := ["_law_residue_here", "_law_found", "_law_clause_here", "_law_literal_here"]) (sc := defScope wVars) (by decide +kernel))
          (fun _ _ _ _ _ => pg_name (i := 3) scWVars.nd rfl (Or.inl rfl)) (fun _ _ _ _ _ => pts_nil) (fun _ _ _ _ _ => pe_callB (id := "abs") call_abs (by rfl) bi.abs (by decide +kernel) (pa_cons (pv 3) pa_nil)))))))
      (pss_one (ps_ret (pe_callTy call_tuple_of (by rfl) bi.tuple (by decide +kernel) (pa_cons (pe_callB (cr_sortedSet rfl) (by rfl) bi.sorted (by decide +kernel) (pa_cons (pe_callTy (cr_setLI rfl) (by rfl) bi.set (by decide +kernel) (pa_cons (pv 1) pa_nil)) pa_nil)) pa_nil)))))), ?_⟩
    refine q_asgL (el_lst ea_nil (by decide)) fun r H1 nr e1 hr1 => ?_
    refine q_forS (K := K) (a := a) (xs := ys) (ev_var (i := 0) rfl) (ha.imp (fun h => e1 a _ h) fun h => e1 a _ h) (fun i σ' H' => ∃ y2 p, σ' = [some (.ref a), some (.ref p), y2, none] ∧ Ex H1 H' ∧ H' p = some (.lst ((litsM (R.take i)).map V.int)))
      (fun H2 e2 => ⟨none, r, rfl, e2, e2 r _ hr1⟩) (fun i σ' H' p => by
        obtain ⟨_, _, _, e, _⟩ := p
        exact e) (fun i x σ' H' hi p => ?_) fun σ' H' p => ?_
    · obtain ⟨y2, p, rfl, e2, hp⟩ := p
      obtain ⟨c, hc, b, rfl, hb⟩ := paired_get pr hi
      have hcl := hs.2 c (List.mem_of_getElem? hc)
      have hb' := (e1.trans e2) b _ hb
      have hpre := pre_lits hs i
      refine p_asg (P := fun H z => ∃ q, z = .ref q ∧ H q = some (.lst ((litsM (R.take (i + 1))).map V.int))) (ep_op (P1 := fun H z => z = .ref p ∧ H p = some (.lst ((litsM (R.take i)).map V.int))) (P2 := LsP (fun n _ y => y = V.int n) (c.map ab)) (ep_of (ev_var (i := 1) (v := .ref p) rfl) fun H3 e3 => ⟨rfl, e3 p _ hp⟩) (fun H H' v e h => ⟨h.1, e p _ h.2⟩) (fun w H3 e3 _ => ?_) fun w w' H3 e3 h1 h2 => ?_) fun v H3 e3 h3 => ?_
      · rw [← fm_some ab c]
        refine ep_lcT (σ := [some (.ref a), some (.ref p), some (.ref b), none]) (vs := [3]) (j := 3) (P0 := fun y n => y = V.int n) (xs := c.map V.int) (as := c) (fun l => some (ab l)) stb_int (ep_of (ev_var (i := 2) (v := .ref b) rfl) fun H4 e4 => ⟨b, rfl, st_of ((e3.trans e4) b _ hb')⟩) (ints_paired c) (by rw [List.length_map]; omega) (fun x => rfl) (fun x l H1 _ _ _ => ey) fun x l b' H4 e4 p0 _ hb2 => ?_
        have eb := Option.some.inj hb2
        subst eb p0
        exact ep_of (ev_cb (ea_cons (ev_var (i := 3) (v := .int l) rfl) ea_nil) rc_abs) fun _ _ => rfl
      · obtain ⟨rfl, h1⟩ := h1
        obtain ⟨q, rfl, h5⟩ := h2.ints
        refine fun Q k => ⟨p, q, _, _, rfl, rfl, h1, h5, sz_of ?_, fun z nz => k _ _ (Ex.new nz) ⟨z, rfl, ?_⟩⟩
        · rw [List.length_map, List.length_map, List.length_map]
          omega
        · rw [upd_same, lits_next hc, List.map_append]
      · obtain ⟨q, rfl, hq⟩ := h3
        exact ⟨_, q, rfl, e2.trans e3, hq⟩
    · obtain ⟨y2, p, rfl, e2, hp⟩ := p
      rw [Paired.length pr, List.take_length] at hp
      refine p_ret (P := fun H v => TkL H v (varsM R)) (ep_imp (ep_tuple (Pb := fun n _ y => y = V.int n) (bs := varsM R) stb_int (ep_cb (ep_a1 (P1 := fun H z => ∃ q c, z = .ref q ∧ H q = some (SetO w q (fun j => decide (j ∈ litsM R)) c) ∧ c ≤ 60) (ep_cb (ep_a1 (ep_of (P := fun H z => z = .ref p ∧ H p = some (.lst ((litsM R).map V.int))) (ev_var (i := 1) rfl) fun H3 e3 => ⟨rfl, e3 p _ hp⟩)) fun vs H3 e3 hv => ?_)) fun vs H3 e3 hv => ?_)) fun w H1 _ h => h.ints) fun v H3 e3 h3 => q v H3 ((e1.trans e2).trans e3) h3
      · obtain ⟨z, rfl, rfl, hz⟩ := hv
        exact fun Q k => ⟨p, litsM R, rfl, sq_of hz, hs.lits, fun q c nq hc => k _ _ (Ex.new nq) ⟨q, c, rfl, upd_same, Nat.le_trans hc hs.lits⟩⟩
      · obtain ⟨z, rfl, s, c, rfl, hS, hc⟩ := hv
        refine fun Q k => ⟨s, _, c, rfl, hS, by omega, fun ns p pw hm _ np => k _ _ (Ex.new np) ⟨p, _, rfl, upd_same, ?_⟩⟩
        rw [srtI_set pw fun k => (hm k).trans (by rw [decide_eq_true_eq])]
        exact ints_paired _
theorem scWProp : FnScope ["_law_residue_here", "_law_literals", "_law_literal_here", "_law_found"] ["_law_residue_here", "_law_literals"] (defScope wProp) := ⟨rfl, rfl, rfl, by decide +kernel, rfl, by decide +kernel, by decide +kernel⟩
theorem ep_empty {σ : L2.St} {H : Hp} : EvP (tTup (tCons (tTup tNil) tNil)) σ H (fun H v => TkR H v [[]]) :=
  ep_tup (PA := fun H vs => ∃ w, vs = [w] ∧ TkL H w []) (ep_a1 ep_nil) (fun vs H1 hv => by
    obtain ⟨w, rfl, _⟩ := hv
    exact (by decide : 1 ≤ 100000)) fun vs H1 p e hv np => by
    obtain ⟨w, rfl, hw⟩ := hv
    exact ⟨p, _, rfl, upd_same, .cons (hw.mono (ExT.new np)) .nil⟩
/-- (residue, found) -/
theorem ep_pair {σ : L2.St} {H : Hp} {te : TE} {i : Nat} {p : Addr} {R : List (List Int)} {f : List Int} (h : EvP te σ H (fun H v => TkR H v R)) (hv : σ[i]? = some (some (.ref p))) (hp : H p = some (.lst (f.map V.int))) :
    EvP (tTup (tCons te (tCons (tVar i) tNil))) σ H (fun H v => Dp K H v (.tuple [dR R, .list (f.map .int)])) :=
  ep_tup (PA := fun H vs => ∃ w w', vs = [w, w'] ∧ TkR H w R ∧ (w' = .ref p ∧ H p = some (.lst (f.map V.int)))) (ep_a2 h (stb_R _).mo fun w H1 e _ => ep_of (ev_var hv) fun H2 e2 => ⟨rfl, (e.trans e2) p _ hp⟩) (fun vs H1 hv => by
    obtain ⟨w, w', rfl, _⟩ := hv
    exact (by decide : 2 ≤ 100000)) fun vs H1 t e hv nt => by
    obtain ⟨w, w', rfl, hw, rfl, hp⟩ := hv
    obtain ⟨r, ys, rfl, h1, h2⟩ := hw
    exact dp_pair (K := K) (TkR.dp ⟨r, ys, rfl, h1, h2⟩) hp nt
theorem ok_wprop {f f1 f2 : Addr} {fd fd1 fd2 : FuncData} {k : Nat} (F : FnP K "_law_propagated" wProp f fd) (UN : Fn P w K mg base "_law_given" (k + 6) f1 fd1 ["_law_residue_here", "_law_literal_here"] spUnd) (US : Fn P w K mg base "_law_units" (k + 4) f2 fd2 ["_law_residue_here"] spUn) :
    FnOk P w K mg base CX0 (k + 7) f fd ["_law_residue_here", "_law_literals"] (spProp K) := by
  refine F.ok scWProp (fun vs H Q E h => ?_) (fun cdv A outer s H vs Q E hr h => ?_)
  · obtain ⟨v, c, _, _, rfl, _⟩ := h
    rfl
  · obtain ⟨v, pl, R, ls, rfl, hR, hs, hls, q⟩ := h
    refine ⟨_, PSs.nox (pss_cons (ps_for PassesOwn.never rfl (pi_list (pv 1)) (pg_name (i := 2) scWProp.nd rfl (.inl rfl))
        (pss_one (ps_set (i := 0) scWProp.nd rfl (.inl rfl) (UN.pe hr (by rfl) (pa_cons (pv 0) (pa_cons (pv 2) pa_nil))))))
      (pss_cons (ps_set (i := 3) scWProp.nd rfl (.inl rfl) (pe_lst pa_nil))
      (pss_cons (ps_while PassesOwn.never (PW.pt (pw_and (pt_cmpR (op_notInT (ru65 hr)) (pe_tup pa_nil) (pv 0) (by rfl)) (pw_and1 (pt_cmpR (op_neD hr.units) (US.pe (hr.mono (by omega)) (by rfl) (pa_cons (pv 0) pa_nil)) (pe_tup pa_nil) (nomark _)))))
        (pss_cons (ps_set (i := 2) scWProp.nd rfl (.inl rfl) (pe_ix ix_tup (US.pe (hr.mono (by omega)) (by rfl) (pa_cons (pv 0) pa_nil)) pe_int (fun _ _ => rfl)))
        (pss_cons (ps_expr (pe_bm PySem.F.plainAttrs_list PySem.F.slot_list_append PySem.F.type_list_append mt_append (pv 3) (pa_cons (pv 2) pa_nil)))
        (pss_one (ps_set (i := 0) scWProp.nd rfl (.inl rfl) (UN.pe hr (by rfl) (pa_cons (pv 0) (pa_cons (pv 2) pa_nil))))))))
      (pss_cons (ps_if (pt_cmpR (op_inT (ru65 hr)) (pe_tup pa_nil) (pv 0) (by rfl)) (pss_one (ps_ret (pe_tup (pa_cons (pe_tup (pa_cons (pe_tup pa_nil) pa_nil)) (pa_cons (pv 3) pa_nil))))) pss_nil)
      (pss_one (ps_ret (pe_tup (pa_cons (pv 0) (pa_cons (pv 3) pa_nil))))))))), ?_⟩
    refine q_forL (K := K) (a := pl) (xs := ls.map V.int) (ev_var (i := 1) rfl) (sq_of hls) (fun i σ' H' => ∃ r y2, σ' = [some r, some (.ref pl), y2, none] ∧ Ex H H' ∧ TkR H' r ((ls.take i).foldl givenM R))
      (fun H1 e => ⟨v, none, rfl, e, hR.mono (ExT.of e)⟩) (fun i σ' H' _ p => by
        obtain ⟨r, y2, _, e, _⟩ := p
        exact sq_of (e pl _ hls)) (fun i x σ' H' hi p => ?_) fun σ' H' p => ?_
    · obtain ⟨r, y2, rfl, e, hr1⟩ := p
      obtain ⟨l, hl, rfl⟩ : ∃ l, ls[i]? = some l ∧ x = .int l := by
        rw [List.getElem?_map] at hi
        cases hcj : ls[i]? with
        | none => rw [hcj] at hi; cases hi
        | some l => rw [hcj] at hi; exact ⟨l, rfl, (Option.some.inj hi).symm⟩
      refine p_asg (P := fun H v => TkR H v ((ls.take (i + 1)).foldl givenM R)) (ep_call (ep_a2 (P1 := fun H v => TkR H v ((ls.take i).foldl givenM R)) (P2 := fun _ z => z = .int l) (ep_of (ev_var (i := 0) (v := r) rfl) fun H2 e2 => hr1.mono (ExT.of e2)) (stb_R _).mo fun w H1 e1 h1 => ep_of (ev_var (i := 2) (v := .int l) rfl) fun _ _ => rfl) fun vs H1 e1 hv => ?_) fun v H1 e1 hv => ⟨v, _, rfl, e.trans e1, hv⟩
      obtain ⟨z, z', rfl, hz, rfl⟩ := hv
      rw [fold_next hl]
      exact sp_und hz (sm_fold hs _)
    · obtain ⟨r, y2, rfl, e, hr1⟩ := p
      rw [List.length_map, List.take_length] at hr1
      refine q_asgL (el_lst ea_nil (by decide)) fun p H1 np e1 hp => ?_
      have hr1 := hr1.mono (ExT.of e1)
      have e1 := e.trans e1
      have np : H p = none := fresh_back e np
      refine q_while (fun m σ' H' => ∃ r y2 S f, σ' = [some r, some (.ref pl), y2, some (.ref p)] ∧ Ex H H' ∧ TkR H' r S ∧ Sm S ∧ S.length = m ∧ H' p = some (.lst (f.map V.int)) ∧ f.length + m ≤ 15 ∧ propF S f = propF (ls.foldl givenM R) []) (ls.foldl givenM R).length
        ⟨r, y2, _, [], rfl, e1, hr1, sm_fold hs _, rfl, hp, by have := (sm_fold hs ls).1; simpa using this, rfl⟩ fun m σ' H' p => ?_
      obtain ⟨r, y2, S, f, rfl, e, hS, sS, rfl, hp, hl, eq⟩ := p
      have epr : ∀ H1, Ex H' H1 → EvP (tVar 0) [some r, some (.ref pl), y2, some (.ref p)] H1 (fun H v => TkR H v S) := fun H1 e1 => ep_of (ev_var (i := 0) (v := r) rfl) fun H2 e2 => hS.mono (ExT.of (e1.trans e2))
      have epu : ∀ H1, Ex H' H1 → EvP (tCall spUn [] E0 (tCons (tVar 0) tNil)) [some r, some (.ref pl), y2, some (.ref p)] H1 (fun H v => TkL H v (unitsM S)) := fun H1 e1 => ep_call (ep_a1 (epr H1 e1)) fun vs H2 e2 hv => by
        obtain ⟨z, rfl, hz⟩ := hv
        exact sp_un hz sS
      refine ⟨!decide ([] ∈ S) && decide (unitsM S ≠ []), et_and (et_op (P1 := fun H v => TkL H v []) (P2 := fun H v => TkR H v S) ep_nil (stb_L _).mo (fun w H1 e1 _ => epr H1 e1) fun w w' H1 e1 h1 h2 => rv_niR h1 h2)
        (fun _ => et_op (P1 := fun H v => TkL H v (unitsM S)) (P2 := fun H v => TkL H v []) (epu H' (Ex.refl H')) (stb_L _).mo (fun _ _ _ _ => ep_nil) fun w w' H1 e1 h1 h2 => rv_neD h1 h2), fun hb H1 e1 => ?_, fun hb H1 e1 => ?_⟩
      · rw [Bool.and_eq_true] at hb
        have hb' : ¬ [] ∈ S := fun z => by
          have h := hb.1
          rw [decide_eq_true z] at h
          cases h
        have hne := of_decide_eq_true hb.2
        obtain ⟨x, t, ext⟩ : ∃ x t, unitsM S = x :: t := by
          cases hc : unitsM S with
          | nil => exact absurd hc hne
          | cons x t => exact ⟨x, t, rfl⟩
        have hx := givenM_lt (R := S) (x := x) (by rw [ext]; exact List.mem_cons_self)
        have hat : atI ((unitsM S).map V.int) 0 = some (V.int x) := by
          rw [ext]
          exact atI_head
        refine ⟨_, fun σ2 H2 h => h, ?_⟩
        refine p_asgS (P := fun _ z => z = .int x) (ep_op (P1 := fun H v => TkL H v (unitsM S)) (P2 := fun _ z => z = .int 0) (epu H1 e1) (stb_L _).mo (fun _ _ _ _ => ep_of ev_c fun _ _ => rfl) fun w w' H2 e2 h1 h2 Q k => ?_) fun z H2 e2 hz => ?_
        · obtain ⟨ua, rfl, hua⟩ := h1
          subst h2
          exact ⟨ua, _, 0, _, rfl, rfl, st_of hua, hat, k _ H2 (Ex.refl H2) rfl⟩
        · subst hz
          have e12 := e1.trans e2
          refine p_appS (K := K) (P := fun _ z => z = .int x) (e12 p _ hp) (ev_var (i := 3) rfl) (ep_of (ev_var (i := 2) (v := .int x) rfl) fun _ _ => rfl) (by rw [List.length_map]; omega) fun z H4 e4 hz => ?_
          subst hz
          have np4 : Ex H (upd H4 p (.lst (f.map V.int ++ [V.int x]))) := Ex.mut ((e.trans e12).trans e4) np
          have x4 : ExT H' (upd H4 p (.lst (f.map V.int ++ [V.int x]))) := (ExT.of (e12.trans e4)).trans (ExT.lst ((e12.trans e4) p _ hp))
          refine p_asg (P := fun H v => TkR H v (givenM S x)) (ep_call (ep_a2 (P1 := fun H v => TkR H v S) (P2 := fun _ z => z = .int x) (ep_of (ev_var (i := 0) (v := r) rfl) fun H2 e2 => (hS.mono x4).mono (ExT.of e2)) (stb_R _).mo fun w H1 e1 h1 => ep_of (ev_var (i := 2) (v := .int x) rfl) fun _ _ => rfl) fun vs H1 e1 hv => ?_) fun v H5 e5 hv => ?_
          · obtain ⟨z, z', rfl, hz, rfl⟩ := hv
            exact sp_und hz sS
          · refine ⟨(givenM S x).length, hx, v, _, givenM S x, f ++ [x], rfl, np4.trans e5, hv, sm_given sS x, rfl, ?_, ?_, ?_⟩
            · rw [List.map_append]
              exact e5 p _ upd_same
            · rw [List.length_append]
              show f.length + 1 + _ ≤ _
              omega
            · rw [← eq, propF_step f hb' ext]
      · refine q_when (b := decide ([] ∈ S)) (et_op (P1 := fun H v => TkL H v []) (P2 := fun H v => TkR H v S) ep_nil (stb_L _).mo (fun w H2 e2 _ => epr H2 (e1.trans e2)) fun w w' H2 e2 h1 h2 => rv_inR h1 h2) (fun hm H2 e2 => ?_) fun hm H2 e2 => ?_
        · have e12 := e1.trans e2
          refine p_ret (P := fun H v => Dp K H v (dProp R ls)) ?_ fun v H4 e4 h4 => q v H4 ((e.trans e12).trans e4) h4
          unfold dProp
          rw [← eq, propF_bad f (of_decide_eq_true hm)]
          exact ep_pair ep_empty rfl (e12 p _ hp)
        · have e12 := e1.trans e2
          have hm' := of_decide_eq_false hm
          have hu : unitsM S = [] := by
            rw [decide_eq_false hm'] at hb
            exact Classical.byContradiction fun z => by
              rw [decide_eq_true z] at hb
              cases hb
          refine p_ret (P := fun H v => Dp K H v (dProp R ls)) ?_ fun v H4 e4 h4 => q v H4 ((e.trans e12).trans e4) h4
          unfold dProp
          rw [← eq, propF_end f hm' hu]
          exact ep_pair (epr H2 e12) rfl (e12 p _ hp)
end
end Cw

set_option Elab.async false
set_option linter.all false
set_option maxRecDepth 100000
set_option maxHeartbeats 2000000
/-! The law's own defs: lessened. -/
namespace Cw
open PySem PySem.Spec PyProof.Rows L2 Evl

abbrev fnSc (ns : List (Str × NameKind)) : Scope := { kind := .function, names := ns, isGenerator := false, isCoroutine := false }
section
variable {P : Program} {w : World} {K : PySem.W.Frag} {mg : Str → Option Value} {base : Heap} {σ : L2.St} {H : Hp}
theorem LsP.dp {β : Type} {Pb : β → Hp → V → Prop} {enc : β → PyData} {bs : List β} {v : V} (EN : Enc K Pb enc) (h : LsP Pb bs H v) : Dp K H v (.list (bs.map enc)) := by
  obtain ⟨p, ys, rfl, hp, pr⟩ := h
  exact .lst (sq_of hp) (dp_all (fun y b h => EN.dp b H y h) pr)
/-- a list compared with another -/
theorem rv_eqL {β : Type} [DecidableEq β] {Pb : β → Hp → V → Prop} {enc : β → PyData} {x y : V} {as bs : List β} (EN : Enc K Pb enc) (heq : ∀ a b, PyData.eqv (enc a) (enc b) = decide (a = b)) (h1 : LsP Pb as H x) (h2 : LsP Pb bs H y) : RvP (rEqD K) x y H (fun _ z => z = .bl (decide (as = bs))) := fun Q q => by
  refine ⟨_, _, h1.dp EN, h2.dp EN, EN.shL _, EN.shL _, ?_⟩
  rw [eqv_L heq]
  exact q _ H (Ex.refl H) rfl
theorem rv_neL {β : Type} [DecidableEq β] {Pb : β → Hp → V → Prop} {enc : β → PyData} {x y : V} {as bs : List β} (EN : Enc K Pb enc) (heq : ∀ a b, PyData.eqv (enc a) (enc b) = decide (a = b)) (h1 : LsP Pb as H x) (h2 : LsP Pb bs H y) : RvP (rNeD K) x y H (fun _ z => z = .bl (!decide (as = bs))) := fun Q q => by
  refine ⟨_, _, h1.dp EN, h2.dp EN, EN.shL _, EN.shL _, ?_⟩
  rw [eqv_L heq]
  exact q _ H (Ex.refl H) rfl
theorem ep_lst0 {β : Type} {Pb : β → Hp → V → Prop} : EvP (tLst tNil) σ H (LsP Pb []) :=
  ep_lst (PA := fun _ vs => vs = []) (fun H1 e Q q => q [] H1 (Ex.refl H1) rfl) (fun vs H1 hv => by rw [hv]; exact Nat.zero_le _) fun vs H1 p e hv np => ⟨p, [], rfl, by rw [upd_same, hv], .nil⟩
theorem LsP.moP {β : Type} {Pb : β → Hp → V → Prop} {bs : List β} (hs : ∀ b, Stb (Pb b)) : Mo (LsP Pb bs) := fun H H' v e h => h.mono hs e
theorem scWLess : FnScope ["_law_residue_here", "_law_kept", "_law_clause_here", "_law_inner", "_law_other", "_law_l"] ["_law_residue_here"] (defScope wLess) := ⟨rfl, rfl, rfl, by decide +kernel, rfl, by decide +kernel, by decide +kernel⟩
/-- [x for x in c if x (not) in d] -/
theorem ep_pick {b : Addr} {i j : Nat} {vs : List Nat} {c : List Int} {p : Int → Bool} {tt : TT} (hb : H b = some (.tup (c.map V.int))) (h1 : σ[i]? = some (some (.ref b))) (hl : c.length ≤ 1000) (hw : ∀ x, wipe ((wipe σ vs).set j (some x)) vs = wipe σ vs)
    (hj : ∀ x : V, ((wipe σ vs).set j (some x))[j]? = some (some x)) (ht : ∀ l H1, Ex H H1 → EvT tt ((wipe σ vs).set j (some (.int l))) H1 (p l)) :
    EvP (tLc (iTup K (tVar i)) (gName j) tt (tVar j) vs) σ H (LsP (fun n _ y => y = V.int n) (c.filter p)) := by
  rw [← fm_filt]
  refine ep_lcT (K := K) (P0 := fun y n => y = V.int n) (xs := c.map V.int) (as := c) (Pb := fun n _ y => y = V.int n) (fun x => if p x = true then some x else none) stb_int (ep_of (ev_var h1) fun H1 e => ⟨b, rfl, st_of (e b _ hb)⟩) (ints_paired c) (by rw [List.length_map]; omega) hw (fun x n H1 e hx _ => ?_) fun x n m H1 e hx _ hf => ?_
  · subst hx
    rw [is_som]
    exact ht n H1 e
  · subst hx
    obtain ⟨_, rfl⟩ := of_som hf
    exact ep_of (ev_var (hj _)) fun _ _ => rfl
theorem within_nil (o c : List Int) : decide (o.filter (fun l => !decide (l ∈ c)) = []) = withinM o c := by
  unfold withinM
  rw [Bool.eq_iff_iff, decide_eq_true_eq, List.filter_eq_nil_iff, List.all_eq_true]
  refine forall_congr' fun l => forall_congr' fun _ => ?_
  cases decide (l ∈ c) <;> simp
theorem any_nil {α : Type} (p : α → Bool) [DecidableEq α] (xs : List α) : decide (xs.filter p = []) = !(xs.any p) := by
  rw [Bool.eq_iff_iff, decide_eq_true_eq, List.filter_eq_nil_iff, Bool.not_eq_true', List.any_eq_false]
theorem ok_wless {f : Addr} {fd : FuncData} {k : Nat} (F : FnP K "_law_lessened" wLess f fd) (bi : Bi mg) : FnOk P w K mg base CX0 (k + 1) f fd ["_law_residue_here"] spLess := by
  refine F.ok scWLess (fun vs H Q E h => ?_) (fun cdv A outer s H vs Q E hr h => ?_)
  · obtain ⟨v, c, rfl, _⟩ := h
    rfl
  · obtain ⟨v, R, rfl, hR, hs, hn, q⟩ := h
    have hR' := hR
    obtain ⟨a, ys, rfl, ha, pr⟩ := hR'
    refine ⟨_, PSs.nox (pss_cons (ps_set (i := 1) scWLess.nd rfl (.inl rfl) (pe_lst pa_nil))
      (pss_cons (ps_for PassesOwn.never rfl (pi_tup (pv 0)) (pg_name (i := 2) scWLess.nd rfl (.inr rfl))
        (pss_cons (ps_setLc (i := 3) (own := [("_law_other", 4)]) (g := gName 4) rfl scWLess.nd rfl (by rfl) (sw_true rfl rfl rfl (by decide +kernel)) (pi_tup (pv 0)) (blkOk_by (N := ["_law_residue_here", "_law_kept", "_law_clause_here", "_law_inner", "_law_other", "_law_l"]) (sc := defScope wLess) (by decide +kernel))
            (fun _ _ _ _ _ => pg_name (i := 4) scWLess.nd rfl (Or.inl rfl))
            (fun _ _ _ _ _ => pts_one (PW.pt (pw_and (pt_cmpR (r := rNeD K) (op_neD hr.units) (pv 4) (pv 2) (nomark _)) (pw_and1 (pt_cmpR (r := rEqD K) (op_eqD hr.units)
              (pe_lc (own := [("_law_l", 5)]) (g := gName 5) (wi := iTup K (tVar 4)) rfl scWLess.nd (pi_tup (pv 4)) (blkOk_by (N := ["_law_residue_here", "_law_kept", "_law_clause_here", "_law_inner", "_law_other", "_law_l"]) (sc := fnSc [(".0", .local), ("_law_other", .local), ("_law_clause_here", .cell)]) (by decide +kernel))
                (fun _ _ _ _ _ => pg_name (i := 5) scWLess.nd rfl (Or.inl rfl)) (fun _ _ _ _ _ => pts_one (pt_cmpR (r := rIn K true) op_notIn_seq (pv 5) (pv 2) (by rfl))) (fun _ _ _ _ _ => pv 5)) (pe_lst pa_nil) (nomark _))))))
            (fun _ _ _ _ _ => pv 4))
        (pss_one (ps_if (pt_cmpR (op_eqD hr.units) (pv 3) (pe_lst pa_nil) (nomark _)) (pss_one (ps_expr (pe_bm PySem.F.plainAttrs_list PySem.F.slot_list_append PySem.F.type_list_append mt_append (pv 1) (pa_cons (pv 2) pa_nil)))) pss_nil))))
      (pss_one (ps_ret (pe_callTy call_tuple_of (by rfl) bi.tuple (by decide +kernel) (pa_cons (pv 1) pa_nil)))))), ?_⟩
    refine q_asgL (el_lst ea_nil (by decide)) fun r H1 nr e1 hr1 => ?_
    refine q_forT (K := K) (a := a) (xs := ys) (ev_var (i := 0) rfl) (st_of (e1 a _ ha)) (fun i σ' H' => (∃ y2 y3, σ' = [some (.ref a), some (.ref r), y2, y3, none, none]) ∧ Lcw H (fun c H y => TkL H y c) (fun c => if (!(R.any fun o => decide (o ≠ c) && withinM o c)) = true then some c else none) R r i H')
      (fun H2 e2 => ⟨⟨none, none, rfl⟩, lcw_start (e1.trans e2) nr (e2 r _ hr1)⟩) (fun i σ' H' _ p => st_of (lcw_ex p.2 a _ ha)) (fun i x σ' H' hi p => ?_) fun σ' H' p => ?_
    · obtain ⟨⟨y2, y3, rfl⟩, w⟩ := p
      obtain ⟨c, hc, b, rfl, hb⟩ := paired_get pr hi
      have hi5 := (List.getElem?_eq_some_iff.mp hc).1
      have hR5 := hs.1
      have hb' := lcw_ex w b _ hb
      have ha' := lcw_ex w a _ ha
      have pr' : Paired (TkL H') ys R := paired_imp (fun y c z => z.mono (ExT.of (lcw_ex w))) pr
      obtain ⟨zs, hz, hzl⟩ := lcw_get w
      have tb : TkL H' (.ref b) c := ⟨b, rfl, hb'⟩
      refine p_asgS (P := ClsP (R.filter fun o => decide (o ≠ c) && withinM o c)) ?_ fun v H2 e2 hv => ?_
      · rw [← fm_filt]
        refine ep_lcT (σ := [some (.ref a), some (.ref r), some (.ref b), y3, none, none]) (vs := [4]) (j := 4) (P0 := TkL H') (xs := ys) (as := R) (fun o => if (decide (o ≠ c) && withinM o c) = true then some o else none) stb_tk (ep_of (ev_var (i := 0) (v := .ref a) rfl) fun H1 e => ⟨a, rfl, st_of (e a _ ha')⟩) pr' (by rw [Paired.length pr']; omega) (fun x => rfl) (fun x o H3 e3 p0 ho => ?_) fun x o b' H3 e3 p0 ho hb2 => ?_
        · rw [is_som]
          have hol : o.length ≤ 1000 := Nat.le_trans (hs.2 o ho) (by decide)
          obtain ⟨x, rfl, hx⟩ := p0
          refine et_and (et_op (P1 := fun H v => TkL H v o) (P2 := fun H v => TkL H v c) (ep_of (ev_var (i := 4) (v := .ref x) rfl) fun H4 e4 => ⟨x, rfl, (e3.trans e4) x _ hx⟩) (stb_L _).mo (fun w H4 e4 _ => ep_of (ev_var (i := 2) (v := .ref b) rfl) fun H5 e5 => tb.mono (ExT.of ((e3.trans e4).trans e5))) fun w w' H4 e4 h1 h2 => rv_neD h1 h2) fun _ => ?_
          rw [← within_nil]
          refine et_op (P1 := LsP (fun n _ y => y = V.int n) (o.filter fun l => !decide (l ∈ c))) (P2 := LsP (fun n _ y => y = V.int n) []) (ep_pick (K := K) (σ := [some (.ref a), some (.ref r), some (.ref b), y3, some (.ref x), none]) (vs := [5]) (i := 4) (j := 5) (e3 x _ hx) rfl hol (fun _ => rfl) (fun _ => rfl) fun l H4 e4 => ?_) (LsP.moP stb_int) (fun _ _ _ _ => ep_lst0) fun w w' H4 e4 h1 h2 => rv_eqL enc_I eqv_int h1 h2
          exact et_test (ev_op (ev_var (i := 5) (v := .int l) rfl) (ev_var (i := 2) (v := .ref b) rfl) (rv_niI ((e3.trans e4) b _ hb')))
        · obtain ⟨_, rfl⟩ := of_som hb2
          exact ep_of (ev_var (i := 4) (v := x) rfl) fun H4 e4 => p0.mono (ExT.of (e3.trans e4))
      · refine s_when (b := !(R.any fun o => decide (o ≠ c) && withinM o c)) ?_ (fun hm H3 e3 => ?_) fun hm H3 e3 => ?_
        · rw [← any_nil]
          exact et_op (P1 := ClsP (R.filter fun o => decide (o ≠ c) && withinM o c)) (P2 := ClsP []) (ep_of (ev_var (i := 3) (v := v) rfl) fun H4 e4 => ClsP.mono e4 hv) (LsP.moP stb_tk) (fun _ _ _ _ => ep_lst0) fun w w' H4 e4 h1 h2 => rv_eqL enc_C eqv_I h1 h2
        · refine p_app (K := K) (P := fun H y => TkL H y c) ((e2.trans e3) r _ hz) (ev_var (i := 1) rfl) (ep_of (ev_var (i := 2) (v := .ref b) rfl) fun H4 e4 => tb.mono (ExT.of ((e2.trans e3).trans e4))) (by omega) fun v H4 e4 hv => ⟨⟨_, _, rfl⟩, ?_⟩
          exact lcw_app stb_tk w hc (by simp only [hm]; rfl) hz ((e2.trans e3).trans e4) hv
        · exact ⟨⟨_, _, rfl⟩, lcw_skip stb_tk w hc (by simp only [hm]; rfl) (e2.trans e3)⟩
    · obtain ⟨⟨y2, y3, rfl⟩, w⟩ := p
      rw [Paired.length pr] at w
      have w2 := lcw_end w
      rw [fm_filt] at w2
      exact p_ret (P := fun H v => TkR H v (lessM R)) (ep_imp (ep_tuple (Pb := fun d H y => TkL H y d) stb_tkl (ep_of (P := ClsP (lessM R)) (ev_var (i := 1) rfl) fun H2 e2 => ClsP.mono e2 w2)) fun w H1 _ h => h.cls) fun v H2 e2 h2 => q v H2 ((lcw_ex w).trans e2) h2
end
end Cw

set_option Elab.async false
set_option linter.all false
set_option maxRecDepth 100000
set_option maxHeartbeats 2000000
/-! The law's own parts. -/
namespace Cw
open PySem PySem.Spec PyProof.Rows L2 Evl

abbrev wParts : Stmt := top 31
abbrev nParts : List Str := ["_law_residue_here", "_law_rest", "_law_found", "_law_part", "_law_turn", "_law_known", "_law_clause_here", "_law_v"]
theorem touch_vars (part : List (List Int)) (c : List Int) : (!decide ((varsM [c]).filter (fun v => decide (v ∈ varsM part)) = [])) = touch part c := by
  rw [any_nil, Bool.not_not]
  unfold touch
  rw [Bool.eq_iff_iff, List.any_eq_true, List.any_eq_true]
  constructor
  · rintro ⟨v, hv, h⟩
    obtain ⟨d, hd, l, hl, rfl⟩ := mem_varsM.mp hv
    obtain rfl : d = c := by simpa using hd
    exact ⟨l, hl, h⟩
  · rintro ⟨l, hl, h⟩
    exact ⟨ab l, mem_varsM.mpr ⟨c, List.mem_cons_self, l, hl, rfl⟩, h⟩
theorem first_in {c : List Int} {r : List (List Int)} (hn : ∀ d ∈ c :: r, d ≠ []) : ∀ k : Nat, c ∈ partIter (c :: r) k
  | 0 => by
    unfold partIter
    exact List.mem_cons_self
  | k + 1 => partIter_up hn (first_in hn k)
theorem rest_lt {c : List Int} {r : List (List Int)} (hn : ∀ d ∈ c :: r, d ≠ []) : ((c :: r).filter fun d => decide (¬ d ∈ partOf (c :: r))).length ≤ r.length := by
  have h : c ∈ partOf (c :: r) := first_in hn _
  rw [List.filter_cons, if_neg (by rw [decide_eq_true_eq]; exact fun z => z h)]
  exact List.length_filter_le _ r
theorem foundM_nil : ∀ n : Nat, foundM n [] = []
  | 0 => rfl
  | n + 1 => rfl
section
variable {P : Program} {w : World} {K : PySem.W.Frag} {mg : Str → Option Value} {base : Heap} {σ : L2.St} {H : Hp}
theorem scWParts : FnScope nParts ["_law_residue_here"] (defScope wParts) := ⟨rfl, rfl, rfl, by decide +kernel, rfl, by decide +kernel, by decide +kernel⟩
theorem sp_varL {R : List (List Int)} {v : V} {H : Hp} (h : SeqR H v R) (hs : Sm R) : SpP spVarL [v] H (fun H v => TkL H v (varsM R)) := fun H1 e Q q E => ⟨v, R, rfl, h.mono e, hs, q⟩
theorem ko_vars {bs : List (List (List Int))} (hs : ∀ S ∈ bs, Sm S) : KeyOk K spVarL H bs (fun y S => TkR H y S) (fun S => dI (varsM S)) (fun S H v => TkL H v (varsM S)) where
  mo b := (stb_L _).mo
  dp b H v h := h.dp
  like b c := alike_I _ _
  tup b := ⟨_, rfl⟩
  deep b := Nat.le_trans (depth_I _) (by decide)
  turn x b p hb := fun H1 e Q q E => ⟨x, b, rfl, .inl (p.mono (ExT.of e)), hs b hb, q⟩
/-- a list of clauses at another place than F -/
def ClF (F : Addr) (cs : List (List Int)) (H : Hp) (v : V) : Prop := ∃ p ys, v = .ref p ∧ p ≠ F ∧ H p = some (.lst ys) ∧ Paired (TkL H) ys cs
theorem ClF.cls {F : Addr} {cs : List (List Int)} {H : Hp} {v : V} (h : ClF F cs H v) : ClsP cs H v := let ⟨p, ys, e, _, hp, pr⟩ := h; ⟨p, ys, e, hp, pr⟩
theorem ClF.mono {F : Addr} {cs : List (List Int)} {H H' : Hp} {v : V} (e : Ex H H') (h : ClF F cs H v) : ClF F cs H' v := by
  obtain ⟨p, ys, rfl, n, hp, pr⟩ := h
  exact ⟨p, ys, rfl, n, e p _ hp, paired_imp (fun y c z => z.mono (ExT.of e)) pr⟩
theorem ClF.app {F : Addr} {cs : List (List Int)} {H H' : Hp} {v : V} {o : List V} {xs : List V} (hF : H' F = some (.lst xs)) (e : Ex H H') (h : ClF F cs H v) : ClF F cs (upd H' F (.lst o)) v := by
  obtain ⟨p, ys, rfl, n, hp, pr⟩ := h
  exact ⟨p, ys, rfl, n, by rw [upd_ne n]; exact e p _ hp, paired_imp (fun y c z => z.mono ((ExT.of e).trans (ExT.lst hF))) pr⟩
theorem ep_lcLF {α β : Type} {te : TE} {t : TT} {tl : TE} {j : Nat} {vs : List Nat} {xs : List V} {as : List α} {P0 : V → α → Prop} {Pb : β → Hp → V → Prop} (f : α → Option β) (hs : ∀ b, Stb (Pb b)) (h : EvP tl σ H (fun H1 v => ∃ a, v = .ref a ∧ SqL K H1 a xs)) (h0 : Paired P0 xs as) (hz : xs.length ≤ 40000)
    (hw : ∀ x, wipe ((wipe σ vs).set j (some x)) vs = wipe σ vs) (ht : ∀ x a H1, Ex H H1 → P0 x a → a ∈ as → EvT t ((wipe σ vs).set j (some x)) H1 (f a).isSome) (he : ∀ x a b H1, Ex H H1 → P0 x a → a ∈ as → f a = some b → EvP te ((wipe σ vs).set j (some x)) H1 (Pb b)) :
    EvP (tLc (iList K tl) (gName j) t te vs) σ H (fun H2 v => ∃ p ys, v = .ref p ∧ H p = none ∧ H2 p = some (.lst ys) ∧ Paired (fun y b => Pb b H2 y) ys (as.filterMap f)) := fun H0 e Q q => h H0 e _ fun v H1 e1 hv => by
  obtain ⟨a, rfl, hx⟩ := hv
  have hl : xs.length = as.length := Paired.length h0
  refine ⟨a, rfl, ⟨xs, hx⟩, fun D nD => lc_list (xs := xs) (Lcw H1 Pb f as D) ⟨nD, Ex.new nD, [], upd_same, Nat.le_refl _, by rw [List.take_zero]; exact .nil⟩ (fun i H' _ w => ex_l w.2.1 hx) (fun i x H' hi w => ?_) fun H' w => ?_⟩
  · obtain ⟨b, hb, p0⟩ := paired_get h0 hi
    have hlt := (List.getElem?_eq_some_iff.mp hi).1
    have hm := List.mem_of_getElem? hb
    exact ⟨hw x, lcw_turn hs w hb (by omega) (ht x b H1 (e.trans e1) p0 hm) fun c hc => he x b c H1 (e.trans e1) p0 hm hc⟩
  · obtain ⟨_, e', ys, hD, _, pr⟩ := w
    rw [hl, List.take_length] at pr
    exact q _ _ (e1.trans e') ⟨D, ys, rfl, fresh_back (e.trans e1) nD, hD, pr⟩
/-- [c for c in rest if c not in part], [.. if touch ..] -/
theorem ep_pickC {p F2 : Addr} {fs : List V} (hF : H F2 = some (.lst fs)) {ys : List V} {i j : Nat} {vs : List Nat} {cs : List (List Int)} {pb : List Int → Bool} {tt : TT} (hp : H p = some (.lst ys)) (pr : Paired (TkL H) ys cs) (h1 : σ[i]? = some (some (.ref p))) (hl : cs.length ≤ 1000) (hw : ∀ x, wipe ((wipe σ vs).set j (some x)) vs = wipe σ vs)
    (hj : ∀ x : V, ((wipe σ vs).set j (some x))[j]? = some (some x)) (ht : ∀ b c H1, Ex H H1 → c ∈ cs → TkL H1 (.ref b) c → EvT tt ((wipe σ vs).set j (some (.ref b))) H1 (pb c)) :
    EvP (tLc (iList K (tVar i)) (gName j) tt (tVar j) vs) σ H (ClF F2 (cs.filter pb)) := by
  rw [← fm_filt]
  refine ep_imp (ep_lcLF (K := K) (P0 := TkL H) (xs := ys) (as := cs) (Pb := fun c H y => TkL H y c) (fun x => if pb x = true then some x else none) stb_tk (ep_of (ev_var h1) fun H1 e => ⟨p, rfl, sq_of (e p _ hp)⟩) pr (by rw [Paired.length pr]; omega) hw (fun x c H1 e hx hc => ?_) fun x c m H1 e hx _ hf => ?_) fun w H1 e h => ?_
  · obtain ⟨b, rfl, hb⟩ := hx
    rw [is_som]
    exact ht b c H1 e hc ⟨b, rfl, e b _ hb⟩
  · obtain ⟨_, rfl⟩ := of_som hf
    exact ep_of (ev_var (hj _)) fun H2 e2 => hx.mono (ExT.of (e.trans e2))
  · obtain ⟨p, ys, rfl, np, hp, pr⟩ := h
    refine ⟨p, ys, rfl, fun z => ?_, hp, pr⟩
    rw [z, hF] at np
    cases np
theorem ok_wparts {f f1 f2 : Addr} {fd fd1 fd2 : FuncData} {k : Nat} (F : FnP K "_law_parts" wParts f fd) (bi : Bi mg) (LV : Fn P w K mg base "_law_variables" (k + 1) f1 fd1 ["_law_residue_here"] spVarL) (RS : Fn P w K mg base "_law_residue" (k + 5) f2 fd2 ["_law_clauses_here"] spRes) : FnOk P w K mg base CX0 (k + 6) f fd ["_law_residue_here"] spParts := by
  refine F.ok scWParts (fun vs H Q E h => ?_) (fun cdv A outer s H vs Q E hr h => ?_)
  · obtain ⟨v, c, rfl, _⟩ := h
    rfl
  · obtain ⟨v, R, rfl, hR, hs, hne, q⟩ := h
    have hR' := hR
    obtain ⟨a, ys, rfl, ha, pr⟩ := hR'
    refine ⟨_, PSs.nox (pss_cons (ps_set (i := 1) scWParts.nd rfl (.inl rfl) (pe_callTy call_list_of (by rfl) bi.list (by decide +kernel) (pa_cons (pv 0) pa_nil)))
      (pss_cons (ps_set (i := 2) scWParts.nd rfl (.inl rfl) (pe_lst pa_nil))
      (pss_cons (ps_while PassesOwn.never (pt_cmpR (op_neD hr.units) (pv 1) (pe_lst pa_nil) (nomark _))
        (pss_cons (ps_set (i := 3) scWParts.nd rfl (.inr rfl) (pe_lst (pa_cons (pe_ix ix_list (pv 1) pe_int (fun _ _ => rfl)) pa_nil)))
        (pss_cons (ps_for PassesOwn.never rfl (pi_range1 (by rfl) bi.range (pa_cons (pe_callB (r := rLenS K) call_len_seq (by rfl) bi.len (by decide +kernel) (pa_cons (pv 1) pa_nil)) pa_nil)) (pg_name (i := 4) scWParts.nd rfl (.inl rfl))
          (pss_cons (ps_set (i := 5) scWParts.nd rfl (.inr rfl) (LV.pe (hr.mono (by omega)) (by rfl) (pa_cons (pv 3) pa_nil)))
          (pss_one (ps_set (i := 3) scWParts.nd rfl (.inr rfl) (pe_lc (own := [("_law_clause_here", 6)]) (g := gName 6) rfl scWParts.nd (pi_list (pv 1)) (blkOk_by (N := nParts) (sc := defScope wParts) (by decide +kernel))
            (fun _ _ _ _ _ => pg_name (i := 6) scWParts.nd rfl (Or.inl rfl))
            (fun _ _ _ _ _ => pts_one (pt_cmpR (r := rNeD K) (op_neD hr.units)
              (pe_lc (own := [("_law_v", 7)]) (g := gName 7) (wi := iTup K (tCall spVarL [] E0 (tCons (tTup (tCons (tVar 6) tNil)) tNil))) rfl scWParts.nd (pi_tup (LV.pe (hr.mono (by omega)) (by rfl) (pa_cons (pe_tup (pa_cons (pv 6) pa_nil)) pa_nil))) (blkOk_by (N := nParts) (sc := fnSc [(".0", .local), ("_law_clause_here", .local), ("_law_variables", .globalImplicit), ("_law_known", .cell)]) (by decide +kernel))
                (fun _ _ _ _ _ => pg_name (i := 7) scWParts.nd rfl (Or.inl rfl)) (fun _ _ _ _ _ => pts_one (pt_cmpR (r := rIn K false) op_in_seq (pv 7) (pv 5) (by rfl))) (fun _ _ _ _ _ => pv 7)) (pe_lst pa_nil) (nomark _)))
            (fun _ _ _ _ _ => pv 6))))))
        (pss_cons (ps_expr (pe_bm PySem.F.plainAttrs_list PySem.F.slot_list_append PySem.F.type_list_append mt_append (pv 2) (pa_cons (RS.pe hr (by rfl) (pa_cons (pv 3) pa_nil)) pa_nil)))
        (pss_one (ps_setLc (i := 1) (own := [("_law_clause_here", 6)]) (g := gName 6) rfl scWParts.nd rfl (by rfl) (sw_true rfl rfl rfl (by decide +kernel)) (pi_list (pv 1)) (blkOk_by (N := nParts) (sc := defScope wParts) (by decide +kernel))
            (fun _ _ _ _ _ => pg_name (i := 6) scWParts.nd rfl (Or.inl rfl)) (fun _ _ _ _ _ => pts_one (pt_cmpR (r := rNotInD K) (op_notInD (ru65 hr)) (pv 6) (pv 3) (by rfl))) (fun _ _ _ _ _ => pv 6)))))))
      (pss_one (ps_ret (pe_callBK (cr_sortedF LV.ok (hr.mono (by omega)) LV.b) (by rfl) bi.sorted (by decide +kernel) (pa_cons (pv 2) pa_nil) (pk_cons (LV.glob (by rfl)) pk_nil))))))), ?_⟩
    refine p_asgS (P := ClsP R) (ep_cb (ep_a1 (ep_of (P := fun H v => v = .ref a ∧ TkR H (.ref a) R) (ev_var (i := 0) (v := .ref a) rfl) fun H2 e2 => ⟨rfl, hR.mono (ExT.of e2)⟩)) fun vs H2 e2 hv => ?_) fun v H1 e1 hv => ?_
    · obtain ⟨z, rfl, rfl, b, zs, eb, hb, pz⟩ := hv
      cases eb
      exact fun Q k => ⟨a, zs, rfl, .inr (st_of hb), fun l nl => k _ _ (Ex.new nl) ⟨l, zs, rfl, upd_same, paired_imp (fun y c z => z.mono (ExT.new nl)) pz⟩⟩
    · refine q_asgL (el_lst ea_nil (by decide)) fun F2 H2 nF e2 hF => ?_
      have nF0 : H F2 = none := fresh_back e1 nF
      have hvF : ClF F2 R H2 v := by
        obtain ⟨p, ys, rfl, hp, pp⟩ := hv
        refine ⟨p, ys, rfl, fun z => ?_, e2 p _ hp, paired_imp (fun y c z => z.mono (ExT.of e2)) pp⟩
        rw [z, nF] at hp
        cases hp
      refine q_while (fun m σ' H' => ∃ (r : V) (y3 y4 y5 : Option V) (rest : List (List Int)) (done : List (List (List Int))) (n : Nat) (zs : List V), σ' = [some (.ref a), some r, some (.ref F2), y3, y4, y5, none, none] ∧ Ex H H' ∧ ClF F2 rest H' r ∧ H' F2 = some (.lst zs) ∧ Paired (TkR H') zs done ∧ rest.length = m ∧ rest.length ≤ n ∧ (∀ c ∈ rest, c ∈ R) ∧ (∀ S ∈ done, Sm S) ∧ zs.length + rest.length ≤ R.length ∧ done ++ foundM n rest = foundM (R.length + 1) R) R.length
        ⟨v, none, none, none, R, [], R.length + 1, [], rfl, e1.trans e2, hvF, hF, .nil, rfl, Nat.le_succ _, fun _ h => h, (fun S h => by cases h), by simp, rfl⟩ fun m σ' H' p => ?_
      obtain ⟨r, y3, y4, y5, rest, done, n, zs, rfl, e, hr1, hF1, pz, rfl, hn, hsub, hdone, hlen, heq⟩ := p
      have hR15 := hs.1
      have hsr : Sm rest := ⟨by omega, fun c hc => hs.2 c (hsub c hc)⟩
      obtain ⟨rp, rs, rfl, nrF, hrp, prr⟩ := hr1
      refine ⟨!decide (rest = []), et_op (P1 := ClsP rest) (P2 := ClsP []) (ep_of (ev_var (i := 1) (v := .ref rp) rfl) fun H4 e4 => ClsP.mono e4 ⟨rp, rs, rfl, hrp, prr⟩) (LsP.moP stb_tk) (fun _ _ _ _ => ep_lst0) fun w w' H4 e4 h1 h2 => rv_neL enc_C eqv_I h1 h2, fun hb H3 e3 => ?_, fun hb H3 e3 => ?_⟩
      · obtain ⟨c, t, rfl⟩ : ∃ c t, rest = c :: t := by
          cases rest with
          | nil => cases hb
          | cons c t => exact ⟨c, t, rfl⟩
        have hnR : ∀ d ∈ c :: t, d ≠ [] := fun d hd z => hne (by rw [← z]; exact hsub d hd)
        refine ⟨_, fun σ2 H2 h => h, ?_⟩
        have hF3 := e3 F2 _ hF1
        have hrp3 := e3 rp _ hrp
        obtain ⟨x0, xs0, rfl, hx0⟩ : ∃ x0 xs0, rs = x0 :: xs0 ∧ TkL H' x0 c := by
          cases prr with
          | cons h t => exact ⟨_, _, rfl, h⟩
        refine p_asgS (P := ClF F2 [c]) (ep_lst (PA := fun H vs => vs = [x0] ∧ Ex H3 H) (fun H4 e4 Q k => ea_cons (ev_op (ev_var (i := 1) (v := .ref rp) rfl) ev_c (rv_ixL (sq_of hrp3) atI_head)) ea_nil H4 e4 Q fun H5 e5 => k _ H5 e5 ⟨rfl, e4.trans e5⟩) (fun vs _ hv => by rw [hv.1]; exact (by decide : 1 ≤ 100000)) fun vs H4 p e4 hv np => ?_) fun pv0 H4 e4 hp0 => ?_
        · refine ⟨p, [x0], rfl, fun z => ?_, by rw [upd_same, hv.1], .cons (hx0.mono (ExT.of (((e3.trans e4)).trans (Ex.new np)))) .nil⟩
          rw [z, (hv.2) F2 _ hF3] at np
          cases np
        · have e34 := e3.trans e4
          have hlr : (c :: t).length ≤ 15 := by omega
          have hrsl : (x0 :: xs0).length = (c :: t).length := Paired.length prr
          refine q_forR1 (n := ((c :: t).length : Int)) (fun H5 e5 Q k => ea_cons (ev_len (ev_var (i := 1) (v := .ref rp) rfl) (sq_of (e34 rp _ hrp))) ea_nil H5 e5 Q fun H6 e6 => by
            have := k H6 e6
            rw [hrsl]
            exact this) ⟨by omega, by omega⟩ (fun i σ' H'' => ∃ (pv : V) (y4 y5 : Option V), σ' = [some (.ref a), some (.ref rp), some (.ref F2), some pv, y4, y5, none, none] ∧ Ex H4 H'' ∧ ClF F2 (partIter (c :: t) i) H'' pv)
            (fun H5 e5 => ⟨pv0, y4, y5, rfl, e5, ClF.mono e5 hp0⟩) (fun i σ' H'' hi p => ?_) fun σ' H'' p => ?_
          · obtain ⟨pv, y4, y5, rfl, e5, hpv⟩ := p
            have e35 := e34.trans e5
            have hsp : Sm (partIter (c :: t) i) := ⟨by
              cases i with
              | zero => exact Nat.le_trans (List.length_take_le _ _) (by omega)
              | succ i => exact Nat.le_trans (List.length_filter_le _ _) hlr, fun d hd => hs.2 d (hsub d (partIter_sub hd))⟩
            refine p_asgS (P := fun H v => TkL H v (varsM (partIter (c :: t) i))) (ep_call (ep_a1 (ep_of (P := ClsP (partIter (c :: t) i)) (ev_var (i := 3) (v := pv) rfl) fun H6 e6 => ClsP.mono e6 hpv.cls)) fun vs H6 e6 hv => by
              obtain ⟨z, rfl, hz⟩ := hv
              exact sp_varL (.inr hz) hsp) fun kv H6 e6 hk => ?_
            have e36 := e35.trans e6
            obtain ⟨kb, rfl, hkb⟩ := hk
            refine p_asg (P := ClF F2 (partIter (c :: t) (i + 1))) (ep_pickC (K := K) (σ := [some (.ref a), some (.ref rp), some (.ref F2), some pv, some (.int (i : Int)), some (.ref kb), none, none]) (vs := [6]) (i := 1) (j := 6) (e36 F2 _ hF1) (e36 rp _ hrp) (paired_imp (fun y c z => z.mono (ExT.of e36)) prr) rfl (by omega) (fun _ => rfl) (fun _ => rfl) fun b d H7 e7 hd hb => ?_) fun v H7 e7 hv => ⟨v, _, _, rfl, (e5.trans e6).trans e7, hv⟩
            rw [← touch_vars]
            refine et_op (P1 := LsP (fun n _ y => y = V.int n) ((varsM [d]).filter fun v => decide (v ∈ varsM (partIter (c :: t) i)))) (P2 := LsP (fun n _ y => y = V.int n) []) ?_ (LsP.moP stb_int) (fun _ _ _ _ => ep_lst0) fun w w' H8 e8 h1 h2 => rv_neL enc_I eqv_int h1 h2
            have hsd : Sm [d] := ⟨(by decide : 1 ≤ 15), fun x hx => by
              obtain rfl : x = d := by simpa using hx
              exact hs.2 x (hsub x hd)⟩
            rw [← fm_filt]
            refine ep_lcT (K := K) (σ := [some (.ref a), some (.ref rp), some (.ref F2), some pv, some (.int (i : Int)), some (.ref kb), some (.ref b), none]) (vs := [7]) (j := 7) (P0 := fun y n => y = V.int n) (xs := (varsM [d]).map V.int) (as := varsM [d]) (fun n => if decide (n ∈ varsM (partIter (c :: t) i)) = true then some n else none) stb_int (ep_imp (ep_call (ep_a1 (P1 := fun H v => TkR H v [d]) (ep_tup (PA := fun H vs => ∃ w, vs = [w] ∧ TkL H w d) (ep_a1 (ep_of (ev_var (i := 6) (v := .ref b) rfl) fun H8 e8 => hb.mono (ExT.of e8))) (fun vs H8 hv => by
                obtain ⟨w, rfl, _⟩ := hv
                exact (by decide : 1 ≤ 100000)) fun vs H8 p e8 hv np => by
                obtain ⟨w, rfl, hw⟩ := hv
                exact ⟨p, _, rfl, upd_same, .cons (hw.mono (ExT.new np)) .nil⟩)) fun vs H8 e8 hv => by
              obtain ⟨z, rfl, hz⟩ := hv
              exact sp_varL (.inl hz) hsd) fun w H8 _ h => by
              obtain ⟨a, rfl, ha⟩ := h
              exact ⟨a, rfl, st_of ha⟩) (ints_paired _) (by rw [List.length_map]; exact Nat.le_trans (len_vars hsd) (by decide)) (fun x => rfl) (fun y n H8 e8 hy _ => ?_) fun y n m H8 e8 hy _ hf => ?_
            · subst hy
              rw [is_som]
              exact et_test (ev_op (ev_var (i := 7) (v := .int n) rfl) (ev_var (i := 5) (v := .ref kb) rfl) (rv_inI ((e7.trans e8) kb _ hkb)))
            · subst hy
              obtain ⟨_, rfl⟩ := of_som hf
              exact ep_of (ev_var (i := 7) rfl) fun _ _ => rfl
          · obtain ⟨pv, y4, y5, rfl, e5, hpv⟩ := p
            rw [Int.toNat_natCast] at hpv
            have hpv : ClF F2 (partOf (c :: t)) H'' pv := hpv
            have e35 := e34.trans e5
            have hsp : Sm (partOf (c :: t)) := ⟨by
              unfold partOf
              show (partStep _ _).length ≤ 15
              exact Nat.le_trans (List.length_filter_le _ _) hlr, fun d hd => hs.2 d (hsub d (partIter_sub hd))⟩
            refine p_appS (K := K) (P := fun H v => TkR H v (resM (partOf (c :: t)))) (e35 F2 _ hF1) (ev_var (i := 2) rfl) (ep_call (ep_a1 (ep_of (P := ClsP (partOf (c :: t))) (ev_var (i := 3) (v := pv) rfl) fun H6 e6 => ClsP.mono e6 hpv.cls)) fun vs H6 e6 hv => by
              obtain ⟨z, rfl, hz⟩ := hv
              exact sp_resS hz hsp) (by omega) fun v H6 e6 hv => ?_
            have e36 := e35.trans e6
            have hF6 := e36 F2 _ hF1
            have x6 : ExT H' (upd H6 F2 (.lst (zs ++ [v]))) := (ExT.of e36).trans (ExT.lst hF6)
            have x66 : ExT H6 (upd H6 F2 (.lst (zs ++ [v]))) := ExT.lst hF6
            have hp6 : ClF F2 (partOf (c :: t)) (upd H6 F2 (.lst (zs ++ [v]))) pv := ClF.app (e6 F2 _ (e35 F2 _ hF1)) e6 hpv
            refine p_asg (P := ClF F2 ((c :: t).filter fun d => decide (¬ d ∈ partOf (c :: t)))) (ep_pickC (K := K) (σ := [some (.ref a), some (.ref rp), some (.ref F2), some pv, y4, y5, none, none]) (vs := [6]) (i := 1) (j := 6) (fs := zs ++ [v]) upd_same (p := rp) (ys := x0 :: xs0) (by rw [upd_ne nrF]; exact e36 rp _ hrp) (paired_imp (fun y c z => z.mono x6) prr) rfl (by omega) (fun _ => rfl) (fun _ => rfl) fun b d H7 e7 hd hb => ?_) fun r2 H7 e7 hr2 => ?_
            · refine et_test (ev_of (ep_op (P1 := fun H v => TkL H v d) (P2 := ClsP (partOf (c :: t))) (ep_of (ev_var (i := 6) (v := .ref b) rfl) fun H8 e8 => hb.mono (ExT.of e8)) (stb_L _).mo (fun w H8 e8 _ => ep_of (ev_var (i := 3) (v := pv) rfl) fun H9 e9 => ClsP.mono ((e7.trans e8).trans e9) hp6.cls) fun w w' H8 e8 h1 h2 Q k => ?_))
              refine ⟨dI d, _, h1.dp, LsP.dp enc_C h2, shaped_I _, shaped_LI _, ?_⟩
              rw [any_enc eqv_I]
              refine k _ H8 (Ex.refl H8) ?_
              rw [decide_not]
              exact congrArg (fun z => V.bl !z) (decide_eq_decide.mpr Iff.rfl)
            · obtain ⟨n', rfl⟩ : ∃ n', n = n' + 1 := ⟨n - 1, by rw [List.length_cons] at hn; omega⟩
              have hlt := rest_lt hnR
              have nF2 : H F2 = none := nF0
              refine ⟨_, by rw [List.length_cons]; omega, r2, some pv, y4, y5, (c :: t).filter fun d => decide (¬ d ∈ partOf (c :: t)), done ++ [resM (partOf (c :: t))], n', zs ++ [v], rfl, (Ex.mut (e.trans e36) nF2).trans e7, hr2, e7 F2 _ upd_same, ?_, rfl, ?_, fun d hd => hsub d (List.mem_filter.mp hd).1, fun S hS => ?_, ?_, ?_⟩
              · exact paired_imp (fun y S z => z.mono (ExT.of e7)) (paired_snoc (F := fun y S => TkR (upd H6 F2 (.lst (zs ++ [v]))) y S) (hv.mono x66) (paired_imp (fun y S z => z.mono x6) pz))
              · rw [List.length_cons] at hn
                omega
              · rcases List.mem_append.mp hS with h | h
                · exact hdone S h
                · obtain rfl : S = resM (partOf (c :: t)) := by simpa using h
                  exact sm_res hsp
              · rw [List.length_append]
                rw [List.length_cons] at hlen
                show zs.length + 1 + _ ≤ _
                omega
              · rw [← heq, List.append_assoc]
                rfl
      · have hb' : rest = [] := Classical.byContradiction fun z => by
          rw [decide_eq_false z] at hb
          cases hb
        subst hb'
        rw [foundM_nil, List.append_nil] at heq
        refine p_ret (P := LsP (fun S H y => TkR H y S) (lawPartsM R)) (ep_ckw (ep_a1 (ep_of (P := LsP (fun S H y => TkR H y S) done) (ev_var (i := 2) (v := .ref F2) rfl) fun H4 e4 => LsP.mono stb_R e4 ⟨F2, zs, rfl, e3 F2 _ hF1, paired_imp (fun y S z => z.mono (ExT.of e3)) pz⟩)) fun vs H4 e4 hv => ?_) fun v H4 e4 h4 => q v H4 ((e.trans e3).trans e4) h4
        obtain ⟨z, rfl, hz⟩ := hv
        have h := rc_srt (K := K) (f := f1) (sp := spVarL) stb_R hz (ko_vars hdone)
        unfold lawPartsM
        rw [← heq]
        exact h
end
end Cw

set_option Elab.async false
set_option linter.all false
set_option maxRecDepth 100000
set_option maxHeartbeats 2000000
/-! Drawing: the draw's list changes, all else stays. -/
namespace Cw
open PySem PySem.Spec PyProof.Rows L2 Evl

def Drx (a x : Addr) (H : Hp) : Prop := ∃ (cells : List Int) (p c s : Int), H a = some (.lst [.ref x, .int p, .int c, .int s]) ∧ H x = some (.lst (cells.map V.int)) ∧ (∀ c ∈ cells, 0 ≤ c) ∧ -1 ≤ p ∧ 0 ≤ c ∧ 0 ≤ s ∧ s < 2147483647
def Dr (a : Addr) (H : Hp) : Prop := ∃ x, Drx a x H
structure Rl (a : Addr) (H H' : Hp) : Prop where
  exm : ∀ b o, b ≠ a → H b = some o → H' b = some o
  ext : ExT H H'
  drx : ∀ x, Drx a x H → Drx a x H'
theorem Drx.ex {a x : Addr} {H H' : Hp} (e : Ex H H') (h : Drx a x H) : Drx a x H' := by
  obtain ⟨cells, p, c, s, h1, h2, h3⟩ := h
  exact ⟨cells, p, c, s, e a _ h1, e x _ h2, h3⟩
theorem Dr.ex {a : Addr} {H H' : Hp} (e : Ex H H') (h : Dr a H) : Dr a H' := let ⟨x, h⟩ := h; ⟨x, h.ex e⟩
theorem Rl.dr {a : Addr} {H H' : Hp} (e : Rl a H H') (h : Dr a H) : Dr a H' := let ⟨x, h⟩ := h; ⟨x, e.drx x h⟩
theorem Rl.of {a : Addr} {H H' : Hp} (e : Ex H H') : Rl a H H' := ⟨fun b o _ h => e b o h, ExT.of e, fun _ h => h.ex e⟩
theorem Rl.mut {a r : Addr} {H H' : Hp} {o : HO} (e : Rl a H H') (hr : H r = none) : Rl a H (upd H' r o) := by
  refine ⟨fun b u n h => ?_, fun b xs h => ?_, fun x h => ?_⟩
  · rw [upd_ne fun z => by rw [z, hr] at h; cases h]
    exact e.exm b u n h
  · rw [upd_ne fun z => by rw [z, hr] at h; cases h]
    exact e.ext b xs h
  · have hx := e.drx x h
    obtain ⟨cs0, p0, c0, s0, h1, h2, _⟩ := h
    obtain ⟨cells, p, c, s, g1, g2, g3⟩ := hx
    refine ⟨cells, p, c, s, ?_, ?_, g3⟩
    · rw [upd_ne fun z => by rw [z, hr] at h1; cases h1]
      exact g1
    · rw [upd_ne fun z => by rw [z, hr] at h2; cases h2]
      exact g2
theorem Rl.refl (a : Addr) (H : Hp) : Rl a H H := Rl.of (Ex.refl H)
theorem Rl.trans {a : Addr} {H H1 H2 : Hp} (u : Rl a H H1) (v : Rl a H1 H2) : Rl a H H2 := ⟨fun b o n h => v.exm b o n (u.exm b o n h), u.ext.trans v.ext, fun x h => v.drx x (u.drx x h)⟩
/-- the draw as it stands -/
structure Dq (a x : Addr) (cells : List Int) (H0 H : Hp) (p c s : Int) : Prop where
  exm : ∀ b o, b ≠ a → H0 b = some o → H b = some o
  ext : ExT H0 H
  ha : H a = some (.lst [.ref x, .int p, .int c, .int s])
  hx : H x = some (.lst (cells.map V.int))
  ne : x ≠ a
theorem Dq.ex {a x : Addr} {cells : List Int} {H0 H H1 : Hp} {p c s : Int} (h : Dq a x cells H0 H p c s) (e : Ex H H1) : Dq a x cells H0 H1 p c s :=
  ⟨fun b o n z => e b _ (h.exm b o n z), h.ext.trans (ExT.of e), e a _ h.ha, e x _ h.hx, h.ne⟩
theorem Dq.set {a x : Addr} {cells : List Int} {H0 H : Hp} {p c s p' c' s' : Int} (h : Dq a x cells H0 H p c s) : Dq a x cells H0 (upd H a (.lst [.ref x, .int p', .int c', .int s'])) p' c' s' :=
  ⟨fun b o n z => by rw [upd_ne n]; exact h.exm b o n z, h.ext.trans (ExT.lst h.ha), upd_same, by rw [upd_ne h.ne]; exact h.hx, h.ne⟩
theorem Dq.rl {a x : Addr} {cells : List Int} {H0 H : Hp} {p c s : Int} (h : Dq a x cells H0 H p c s) (g0 : ∀ y, (∃ p c s, H0 a = some (.lst [.ref y, .int p, .int c, .int s])) → y = x) (hc : ∀ c ∈ cells, 0 ≤ c) (h1 : -1 ≤ p) (h2 : 0 ≤ c) (h3 : 0 ≤ s) (h4 : s < 2147483647) : Rl a H0 H := ⟨h.exm, h.ext, fun y hy => by
    obtain ⟨cs0, p0, c0, s0, g1, _⟩ := hy
    obtain rfl : y = x := g0 y (by rw [g1]; exact ⟨_, _, _, rfl⟩)
    exact ⟨cells, p, c, s, h.ha, h.hx, hc, h1, h2, h3, h4⟩⟩
def spTake : Sp := fun vs H Q _ => ∃ (a : Addr) (n : Int), vs = [.ref a, .int n] ∧ Dr a H ∧ 0 < n ∧ n < 1000000 ∧ ∀ r H', Rl a H H' → 0 ≤ r → r < n → Q (.int r) H'
section
variable {P : Program} {w : World} {K : PySem.W.Frag} {mg : Str → Option Value} {base : Heap} {σ : L2.St} {H : Hp}
theorem scWTake : FnScope ["_law_draw_here", "_law_many", "_law_found"] ["_law_draw_here", "_law_many"] (defScope wTake) := ⟨rfl, rfl, rfl, by decide +kernel, rfl, by decide +kernel, by decide +kernel⟩
/-- draw[j] -/
theorem ev_draw {a x : Addr} {cells : List Int} {H0 H : Hp} {p c s : Int} {i : Nat} {v : V} {j : Nat} (h : Dq a x cells H0 H p c s) (hv : σ[i]? = some (some (.ref a))) (hj : [V.ref x, .int p, .int c, .int s][j]? = some v) : Ev (tOp (rIxL K) (tVar i) (tC (.int (j : Int)))) σ H v :=
  ev_op (ev_var hv) ev_c (rv_ixL (sq_of h.ha) (atI_nat hj))
theorem ok_wtake {f : Addr} {fd : FuncData} {k : Nat} (F : FnP K "_law_take" wTake f fd) (bi : Bi mg) : FnOk P w K mg base CX0 (k + 1) f fd ["_law_draw_here", "_law_many"] spTake := by
  refine F.ok scWTake (fun vs H Q E h => ?_) (fun cdv A outer s H vs Q E hr h => ?_)
  · obtain ⟨v, c, rfl, _⟩ := h
    rfl
  · obtain ⟨a, n, rfl, hD, hn, hn2, q⟩ := h
    obtain ⟨x, cells, p, c, s, ha, hx, hcs, hp, hc, hs, hs2⟩ := hD
    have hxa : x ≠ a := fun z => by
      rw [z, ha] at hx
      cases cells with
      | nil => cases hx
      | cons m ms => cases hx
    refine ⟨_, PSs.nox (pss_cut (ps_if (pt_cmpR op_eq (pe_ix ix_list (pv 0) pe_int (fun _ _ => rfl)) pe_int (nomark _))
        (pss_cons (ps_asg (pe_op op_add (pe_ix ix_list (pv 0) pe_int (fun _ _ => rfl)) pe_int) (pg_sub (pv 0) pe_int set_list (fun _ => rfl)))
        (pss_cut (ps_if (pt_cmpR op_lt (pe_ix ix_list (pv 0) pe_int (fun _ _ => rfl)) (pe_callB (r := rLenS K) call_len_seq (by rfl) bi.len (by decide +kernel) (pa_cons (pe_ix ix_list (pv 0) pe_int (fun _ _ => rfl)) pa_nil)) (nomark _))
            (pss_one (ps_asg (pe_ix ix_list (pe_ix ix_list (pv 0) pe_int (fun _ _ => rfl)) (pe_ix ix_list (pv 0) pe_int (fun _ _ => rfl)) (fun _ _ => rfl)) (pg_sub (pv 0) pe_int set_list (fun _ => rfl)))) pss_nil)
        (pss_one (ps_if (pt_cmpR op_eq (pe_ix ix_list (pv 0) pe_int (fun _ _ => rfl)) pe_int (nomark _))
            (pss_cons (ps_asg (pe_op op_mod (pe_callTy (T := "int") (r := rInt1) call_int1 (by rfl) bi.int (by decide +kernel) (pa_cons (pe_op op_add (pe_op op_mul (pe_ix ix_list (pv 0) pe_int (fun _ _ => rfl)) pe_int) pe_int) pa_nil)) pe_int) (pg_sub (pv 0) pe_int set_list (fun _ => rfl)))
            (pss_one (ps_asg (pe_ix ix_list (pv 0) pe_int (fun _ _ => rfl)) (pg_sub (pv 0) pe_int set_list (fun _ => rfl))))) pss_nil)))) pss_nil)
      (pss_cons (ps_set (i := 2) scWTake.nd rfl (.inl rfl) (pe_op op_mod (pe_callTy (T := "int") (r := rInt1) call_int1 (by rfl) bi.int (by decide +kernel) (pa_cons (pe_ix ix_list (pv 0) pe_int (fun _ _ => rfl)) pa_nil)) (pv 1)))
      (pss_cons (ps_asg (pe_op op_fdiv (pe_ix ix_list (pv 0) pe_int (fun _ _ => rfl)) (pv 1)) (pg_sub (pv 0) pe_int set_list (fun _ => rfl)))
      (pss_one (ps_ret (pv 2)))))), ?_⟩
    have D0 : Dq a x cells H H p c s := ⟨fun b o _ h => h, ExT.refl H, ha, hx, hxa⟩
    refine q_cut (M := fun σ' H' => ∃ p c s, σ' = [some (.ref a), some (.int n), none] ∧ Dq a x cells H H' p c s ∧ -1 ≤ p ∧ 0 ≤ c ∧ 0 ≤ s ∧ s < 2147483647) (s_when (b := decide (V.int c = V.int 0)) (et_test (ev_op (ev_draw (i := 0) (j := 2) D0 rfl rfl) ev_c (rv_eq rfl))) (fun hb H1 e1 => ?_) fun hb H1 e1 => ⟨p, c, s, rfl, D0.ex e1, hp, hc, hs, hs2⟩) fun σ' H' M => ?_
    · have D1 := D0.ex e1
      refine q_setL (j := 1) D1.ha (ev_op (ev_draw (i := 0) (j := 1) D1 rfl rfl) ev_c rv_I0) (ev_var (i := 0) rfl) ev_c (by simp) fun H2 e2 => ?_
      have D2 : Dq a x cells H _ (p + 1) c s := (D1.ex e2).set
      refine q_cut (M := fun σ' H' => ∃ c s, σ' = [some (.ref a), some (.int n), none] ∧ Dq a x cells H H' (p + 1) c s ∧ 0 ≤ c ∧ 0 ≤ s ∧ s < 2147483647) (s_when (b := decide (p + 1 < ((cells.map V.int).length : Int))) (et_test (ev_op (ev_draw (i := 0) (j := 1) D2 rfl rfl) (ev_len (ev_draw (i := 0) (j := 0) D2 rfl rfl) (sq_of D2.hx)) rv_I0)) (fun hb H3 e3 => ?_) fun hb H3 e3 => ⟨c, s, rfl, D2.ex e3, hc, hs, hs2⟩) fun σ' H' M => ?_
      · have D3 := D2.ex e3
        have hlt := of_decide_eq_true hb
        rw [List.length_map] at hlt
        have hlt' : (p + 1).toNat < cells.length := by omega
        have ep : ((p + 1).toNat : Int) = p + 1 := by omega
        refine s_setL (j := 2) D3.ha (ev_op (ev_draw (i := 0) (j := 0) D3 rfl rfl) (ev_draw (i := 0) (j := 1) D3 rfl rfl) (rv_ixL (sq_of D3.hx) (v := .int cells[(p + 1).toNat]) ?_)) (ev_var (i := 0) rfl) ev_c (by simp) fun H4 e4 => ⟨cells[(p + 1).toNat], s, rfl, (D3.ex e4).set, hcs _ (List.getElem_mem _), hs, hs2⟩
        have hat : atI (cells.map V.int) ((p + 1).toNat : Int) = some (V.int cells[(p + 1).toNat]) := atI_nat (by rw [List.getElem?_map, List.getElem?_eq_getElem hlt']; rfl)
        rw [ep] at hat
        exact hat
      · obtain ⟨c, s, rfl, D3, hc, hs, hs2⟩ := M
        refine s_when (b := decide (V.int c = V.int 0)) (et_test (ev_op (ev_draw (i := 0) (j := 2) D3 rfl rfl) ev_c (rv_eq rfl))) (fun hb H4 e4 => ?_) fun hb H4 e4 => ⟨p + 1, c, s, rfl, D3.ex e4, by omega, hc, hs, hs2⟩
        have D4 := D3.ex e4
        refine q_setL (j := 3) D4.ha (ev_op (ev_cb (ea_cons (ev_op (ev_op (ev_draw (i := 0) (j := 3) D4 rfl rfl) ev_c (rv_I (.inr ⟨by decide, by decide⟩))) ev_c rv_I0) ea_nil) rc_int) ev_c (rv_I (by decide))) (ev_var (i := 0) rfl) ev_c (by simp) fun H5 e5 => ?_
        have D5 : Dq a x cells H _ (p + 1) c ((s * 48271 + 11) % 2147483647) := (D4.ex e5).set
        have h1 := Int.emod_nonneg (s * 48271 + 11) (b := 2147483647) (by decide)
        have h2 := Int.emod_lt_of_pos (s * 48271 + 11) (b := 2147483647) (by decide)
        exact s_setL (j := 2) D5.ha (ev_draw (i := 0) (j := 3) D5 rfl rfl) (ev_var (i := 0) rfl) ev_c (by simp) fun H6 e6 => ⟨p + 1, _, _, rfl, (D5.ex e6).set, by omega, h1, h1, h2⟩
    · obtain ⟨p, c, s, rfl, D1, hp, hc, hs, hs2⟩ := M
      refine q_asg (ev_op (ev_cb (ea_cons (ev_draw (i := 0) (j := 2) D1 rfl rfl) ea_nil) rc_int) (ev_var (i := 1) (v := .int n) rfl) (rv_I hn)) fun H2 e2 => ?_
      have D2 := D1.ex e2
      refine q_setL (j := 2) D2.ha (ev_op (ev_draw (i := 0) (j := 2) D2 rfl rfl) (ev_var (i := 1) (v := .int n) rfl) (rv_I ⟨hn, by omega⟩)) (ev_var (i := 0) rfl) ev_c (by simp) fun H3 e3 => ?_
      have D3 : Dq a x cells H _ p (c / n) s := (D2.ex e3).set
      have h1 := Int.emod_nonneg c (b := n) (by omega)
      have h2 := Int.emod_lt_of_pos c hn
      exact s_ret (ev_var (i := 2) rfl) fun H4 e4 => q _ H4 ((D3.ex e4).rl (fun y hy => by
        obtain ⟨_, _, _, hy⟩ := hy
        rw [ha] at hy
        cases hy
        rfl) hcs hp (Int.ediv_nonneg hc (by omega)) hs hs2) h1 h2
end
end Cw

set_option Elab.async false
set_option linter.all false
set_option maxRecDepth 100000
set_option maxHeartbeats 2000000
/-! The draw made; the calculus for what draws; a literal drawn. -/
namespace Cw
open PySem PySem.Spec PyProof.Rows L2 Evl

abbrev wDraw : Stmt := top 17
abbrev wLit : Stmt := top 26
/-! ### what draws -/
def EvR (a : Addr) (te : TE) (σ : L2.St) (H : Hp) (P : Hp → V → Prop) : Prop := ∀ H1, Rl a H H1 → ∀ Q : VK, (∀ v H2, Rl a H1 H2 → P H2 v → Q v H2) → te σ H1 Q
def EvRA (a : Addr) (ta : TA) (σ : L2.St) (H : Hp) (P : Hp → List V → Prop) : Prop := ∀ H1, Rl a H H1 → ∀ Q : List V → Hp → Prop, (∀ vs H2, Rl a H1 H2 → P H2 vs → Q vs H2) → ta σ H1 Q
def SpR (a : Addr) (sp : Sp) (vs : List V) (H : Hp) (P : Hp → V → Prop) : Prop := ∀ H1, Rl a H H1 → ∀ Q : VK, (∀ v H2, Rl a H1 H2 → P H2 v → Q v H2) → ∀ E : XK, sp vs H1 Q E
def MoR (a : Addr) (P : Hp → V → Prop) : Prop := ∀ H H' v, Rl a H H' → P H v → P H' v
def EvRT (a : Addr) (t : TT) (σ : L2.St) (H : Hp) : Prop := ∀ H1, Rl a H H1 → ∀ Q : Bool → Hp → Prop, (∀ b H2, Rl a H1 H2 → Q b H2) → t σ H1 Q
section
variable {K : PySem.W.Frag} {a : Addr} {σ : L2.St} {H H' : Hp} {ta tb te : TE} {t : TT} {r : R2} {P P1 P2 : Hp → V → Prop} {D : Ends} {tu tw tz : TS}
theorem er_of (h : ∀ H1, Rl a H H1 → EvP te σ H1 P) : EvR a te σ H P := fun H1 e Q q => h H1 e H1 (Ex.refl H1) Q fun v H2 e2 p => q v H2 (Rl.of e2) p
theorem er_imp (h : EvR a te σ H P1) (hi : ∀ w H1, Rl a H H1 → P1 H1 w → P H1 w) : EvR a te σ H P := fun H1 e Q q => h H1 e Q fun w H2 e2 hw => q w H2 e2 (hi w H2 (e.trans e2) hw)
theorem er_op (ha : EvR a ta σ H P1) (m : MoR a P1) (hb : ∀ w H1, Rl a H H1 → P1 H1 w → EvR a tb σ H1 P2) (hr : ∀ w w' H1, Rl a H H1 → P1 H1 w → P2 H1 w' → RvP r w w' H1 P) : EvR a (tOp r ta tb) σ H P := fun H1 e Q q =>
  ha H1 e _ fun w H2 e2 hw => hb w H2 (e.trans e2) hw H2 (Rl.refl a H2) _ fun w' H3 e3 hw' => hr w w' H3 ((e.trans e2).trans e3) (m H2 H3 w e3 hw) hw' Q fun z H4 e4 hz => q z H4 ((e2.trans e3).trans (Rl.of e4)) hz
theorem er_a1 (ha : EvR a ta σ H P1) : EvRA a (tCons ta tNil) σ H (fun H2 vs => ∃ w, vs = [w] ∧ P1 H2 w) := fun H1 e Q q =>
  ha H1 e _ fun w H2 e2 hw => q [w] H2 e2 ⟨w, rfl, hw⟩
theorem er_a2 (ha : EvR a ta σ H P1) (m : MoR a P1) (hb : ∀ w H1, Rl a H H1 → P1 H1 w → EvR a tb σ H1 P2) : EvRA a (tCons ta (tCons tb tNil)) σ H (fun H2 vs => ∃ w w', vs = [w, w'] ∧ P1 H2 w ∧ P2 H2 w') := fun H1 e Q q =>
  ha H1 e _ fun w H2 e2 hw => hb w H2 (e.trans e2) hw H2 (Rl.refl a H2) _ fun w' H3 e3 hw' => q [w, w'] H3 (e2.trans e3) ⟨w, w', rfl, m H2 H3 w e3 hw, hw'⟩
theorem er_call {sp : Sp} {E : XK} {ta : TA} {PA : Hp → List V → Prop} (h : EvRA a ta σ H PA) (hs : ∀ vs H1, Rl a H H1 → PA H1 vs → SpR a sp vs H1 P) : EvR a (tCall sp [] E ta) σ H P := fun H1 e Q q =>
  h H1 e _ fun vs H2 e2 hv => by
    rw [List.append_nil]
    exact hs vs H2 (e.trans e2) hv H2 (Rl.refl a H2) Q (fun v H3 e3 p => q v H3 (e2.trans e3) p) E
theorem sr_of {sp : Sp} {vs : List V} (h : ∀ H1, Rl a H H1 → SpP sp vs H1 P) : SpR a sp vs H P := fun H1 e Q q E => h H1 e H1 (Ex.refl H1) Q (fun v H2 e2 p => q v H2 (Rl.of e2) p) E
theorem r_asg {i : Nat} (h : EvR a te σ H P) (k : ∀ v H1, Rl a H H1 → P H1 v → D.nx (σ.set i (some v)) H1) : tAsg te (gName i) D σ H := h H (Rl.refl a H) _ fun v H1 e p => k v H1 e p
theorem r_asgS {i : Nat} (h : EvR a te σ H P) (k : ∀ v H1, Rl a H H1 → P H1 v → tz D (σ.set i (some v)) H1) : tSeq (tAsg te (gName i)) tz D σ H := r_asg (D := { D with nx := tz D }) h k
theorem r_ret (h : EvR a te σ H P) (k : ∀ v H1, Rl a H H1 → P H1 v → D.rt v H1) : tRet te D σ H := h H (Rl.refl a H) _ k
theorem rt_op (ha : EvR a ta σ H P1) (m : MoR a P1) (hb : ∀ w H1, Rl a H H1 → P1 H1 w → EvR a tb σ H1 P2) (hr : ∀ w w' H1, Rl a H H1 → P1 H1 w → P2 H1 w' → RvP r w w' H1 (fun _ z => ∃ b, z = .bl b)) : EvRT a (tTest (tOp r ta tb)) σ H := fun H1 e Q q =>
  er_op ha m hb hr H1 e _ fun z H2 e2 hz => by
    obtain ⟨b, rfl⟩ := hz
    exact ⟨b, rfl, q b H2 e2⟩
theorem r_ifS (h : EvRT a t σ H) (h1 : ∀ H1, Rl a H H1 → tu { D with nx := tz D } σ H1) (h2 : ∀ H1, Rl a H H1 → tw { D with nx := tz D } σ H1) : tSeq (tIfS t tu tw) tz D σ H := h H (Rl.refl a H) _ fun b H1 e => by
  cases b with
  | true => exact h1 H1 e
  | false => exact h2 H1 e
theorem mr_int {p : Int → Prop} : MoR a (fun _ z => ∃ r, z = .int r ∧ p r) := fun _ _ _ _ h => h
theorem mr_eq {x : V} : MoR a (fun _ z => z = x) := fun _ _ _ _ h => h
/-- ints in a list other than the draw, or in a tuple -/
def SeqI (a : Addr) (ns : List Int) (H : Hp) (v : V) : Prop := ∃ p, v = .ref p ∧ ((p ≠ a ∧ H p = some (.lst (ns.map V.int))) ∨ H p = some (.tup (ns.map V.int)))
theorem SeqI.mr {ns : List Int} : MoR a (SeqI a ns) := fun H H' v e h => by
  obtain ⟨p, rfl, ⟨n, h⟩ | h⟩ := h
  · exact ⟨p, rfl, .inl ⟨n, e.exm p _ n h⟩⟩
  · exact ⟨p, rfl, .inr (e.ext p _ h)⟩
theorem sp_take {n : Int} (hD : Dr a H) (h0 : 0 < n) (h1 : n < 1000000) : SpR a spTake [.ref a, .int n] H (fun _ z => ∃ r, z = .int r ∧ (0 ≤ r ∧ r < n)) := fun H1 e Q q E => ⟨a, n, rfl, e.dr hD, h0, h1, fun r H' e' p1 p2 => q _ H' e' ⟨r, rfl, p1, p2⟩⟩
/-- _law_take(draw, n) -/
theorem er_take {i : Nat} {n : Int} {E : XK} (hD : Dr a H) (hi : σ[i]? = some (some (.ref a))) (hn : EvR a te σ H (fun _ z => z = .int n)) (h0 : 0 < n) (h1 : n < 1000000) : EvR a (tCall spTake [] E (tCons (tVar i) (tCons te tNil))) σ H (fun _ z => ∃ r, z = .int r ∧ (0 ≤ r ∧ r < n)) :=
  er_call (er_a2 (P1 := fun _ z => z = .ref a) (P2 := fun _ z => z = .int n) (er_of fun H1 e => ep_of (ev_var hi) fun _ _ => rfl) mr_eq fun w H1 e _ => fun H2 e2 Q q => hn H2 (e.trans e2) Q q) fun vs H1 e hv => by
    obtain ⟨w, w', rfl, rfl, rfl⟩ := hv
    exact sp_take (e.dr hD) h0 h1
theorem er_c {v : V} : EvR a (tC v) σ H (fun _ z => z = v) := er_of fun H1 e => ep_of ev_c fun _ _ => rfl
theorem er_takeC {i : Nat} {n : Int} {E : XK} (hD : Dr a H) (hi : σ[i]? = some (some (.ref a))) (h0 : 0 < n) (h1 : n < 1000000) : EvR a (tCall spTake [] E (tCons (tVar i) (tCons (tC (.int n)) tNil))) σ H (fun _ z => ∃ r, z = .int r ∧ (0 ≤ r ∧ r < n)) := er_take hD hi er_c h0 h1
end
theorem at_nn {α : Type} {xs : List α} {r : Int} (h0 : 0 ≤ r) (h1 : r < xs.length) : ∃ x ∈ xs, atI xs r = some x := by
  have h2 : r.toNat < xs.length := by omega
  refine ⟨xs[r.toNat], List.getElem_mem h2, ?_⟩
  have h := atI_nat (List.getElem?_eq_getElem h2)
  rwa [show ((r.toNat : Nat) : Int) = r by omega] at h
theorem at_ints {ns : List Int} {r : Int} (h0 : 0 ≤ r) (h1 : r < ns.length) : ∃ n ∈ ns, atI (ns.map V.int) r = some (V.int n) := by
  obtain ⟨x, hx, e⟩ := at_nn (xs := ns.map V.int) h0 (by rw [List.length_map]; exact h1)
  obtain ⟨n, hn, rfl⟩ := List.mem_map.mp hx
  exact ⟨n, hn, e⟩
def spDraw (K : PySem.W.Frag) : Sp := fun vs H Q _ => ∃ (l : Addr) (ns : List Int), vs = [.ref l] ∧ SqL K H l (ns.map V.int) ∧ ns.length ≤ 63 ∧ ∀ a H', Ex H H' → H a = none → Dr a H' → Q (.ref a) H'
def spLit : Sp := fun vs H Q _ => ∃ (a : Addr) (v : V) (ns : List Int), vs = [.ref a, v] ∧ Dr a H ∧ SeqI a ns H v ∧ ns ≠ [] ∧ ns.length ≤ 1000 ∧ ∀ l H', Rl a H H' → (∃ x ∈ ns, l = x ∨ l = -x) → Q (.int l) H'
section
variable {P : Program} {w : World} {K : PySem.W.Frag} {mg : Str → Option Value} {base : Heap} {σ : L2.St} {H : Hp}
theorem scWDraw : FnScope ["_law_script", "_law_seed", "_law_cell"] ["_law_script"] (defScope wDraw) := ⟨rfl, rfl, rfl, by decide +kernel, rfl, by decide +kernel, by decide +kernel⟩
theorem ok_wdraw {f : Addr} {fd : FuncData} {k : Nat} (F : FnP K "_law_draw" wDraw f fd) (bi : Bi mg) : FnOk P w K mg base CX0 (k + 1) f fd ["_law_script"] (spDraw K) := by
  refine F.ok scWDraw (fun vs H Q E h => ?_) (fun cdv A outer s H vs Q E hr h => ?_)
  · obtain ⟨v, c, rfl, _⟩ := h
    rfl
  · obtain ⟨l, ns, rfl, hS, hl, q⟩ := h
    refine ⟨_, PSs.nox (pss_cons (ps_set (i := 1) scWDraw.nd rfl (.inl rfl) pe_int)
      (pss_cons (ps_for PassesOwn.never rfl (pi_list (pv 0)) (pg_name (i := 2) scWDraw.nd rfl (.inl rfl))
        (pss_one (ps_set (i := 1) scWDraw.nd rfl (.inl rfl) (pe_op op_mod (pe_callTy (T := "int") (r := rInt1) call_int1 (by rfl) bi.int (by decide +kernel) (pa_cons
          (pe_op op_add (pe_op op_add (pe_op op_mul (pv 1) pe_int) (pe_op op_mod (pe_callB call_abs (by rfl) bi.abs (by decide +kernel) (pa_cons (pe_callTy (T := "int") (r := rInt1) call_int1 (by rfl) bi.int (by decide +kernel) (pa_cons (pv 2) pa_nil)) pa_nil)) pe_int)) pe_int) pa_nil)) pe_int))))
      (pss_one (ps_ret (pe_lst (pa_cons (pe_lc (own := [("_law_cell", 2)]) (g := gName 2) rfl scWDraw.nd (pi_list (pv 0)) (blkOk_by (N := ["_law_script", "_law_seed", "_law_cell"]) (sc := defScope wDraw) (by decide +kernel))
          (fun _ _ _ _ _ => pg_name (i := 2) scWDraw.nd rfl (Or.inl rfl)) (fun _ _ _ _ _ => pts_nil) (fun _ _ _ _ _ => pe_callB (id := "abs") call_abs (by rfl) bi.abs (by decide +kernel) (pa_cons (pe_callTy (T := "int") (r := rInt1) call_int1 (by rfl) bi.int (by decide +kernel) (pa_cons (pv 2) pa_nil)) pa_nil)))
        (pa_cons (pe_un un_neg pe_int) (pa_cons pe_int (pa_cons (pv 1) pa_nil))))))))), ?_⟩
    refine q_asg ev_c fun H1 e1 => ?_
    refine q_forL (K := K) (a := l) (xs := ns.map V.int) (ev_var (i := 0) rfl) (ex_l e1 hS) (fun i σ' H' => ∃ s y2, σ' = [some (.ref l), some (.int s), y2] ∧ Ex H H' ∧ 0 ≤ s ∧ s < 2147483647)
      (fun H2 e2 => ⟨7, none, rfl, e1.trans e2, by decide, by decide⟩) (fun i σ' H' _ p => by
        obtain ⟨_, _, _, e, _⟩ := p
        exact ex_l e hS) (fun i x σ' H' hi p => ?_) fun σ' H' p => ?_
    · obtain ⟨s, y2, rfl, e2, h0, h1⟩ := p
      obtain ⟨n, hn, rfl⟩ : ∃ n, ns[i]? = some n ∧ x = .int n := by
        rw [List.getElem?_map] at hi
        cases hcj : ns[i]? with
        | none => rw [hcj] at hi; cases hi
        | some l => rw [hcj] at hi; exact ⟨l, rfl, (Option.some.inj hi).symm⟩
      refine s_asg (ev_op (ev_cb (ea_cons (ev_op (ev_op (ev_op (ev_var (i := 1) rfl) ev_c (rv_I (.inr ⟨by decide, by decide⟩))) (ev_op (ev_cb (ea_cons (ev_cb (ea_cons (ev_var (i := 2) rfl) ea_nil) rc_int) ea_nil) rc_abs) ev_c (rv_I (by decide))) rv_I0) ev_c rv_I0) ea_nil) rc_int) ev_c (rv_I (by decide))) fun H3 e3 => ⟨_, _, rfl, e2.trans e3, Int.emod_nonneg _ (by decide), Int.emod_lt_of_pos _ (by decide)⟩
    · obtain ⟨s, y2, rfl, e2, h0, h1⟩ := p
      refine p_ret (P := fun H3 v => ∃ a, v = .ref a ∧ H a = none ∧ Dr a H3) (ep_lst (PA := fun H3 vs => ∃ x, Ex H H3 ∧ vs = [.ref x, .int (-1), .int 0, .int s] ∧ H3 x = some (.lst ((ns.map fun n => ab n).map V.int))) (fun H3 e3 Q k => ?_) (fun vs H3 hv => by
        obtain ⟨x, _, rfl, _⟩ := hv
        exact (by decide : 4 ≤ 100000)) fun vs H3 p e3 hv np => ?_) fun v H3 e3 hv => by
          obtain ⟨a, rfl, na, hD⟩ := hv
          exact q a H3 (e2.trans e3) na hD
      · have hc : EvP (tLc (iList K (tVar 0)) (gName 2) tYes (tCB (fun xs H Q => ∃ i, xs = [V.int i] ∧ Q (.int (if i < 0 then -i else i)) H) (tCons (tCB rInt1 (tCons (tVar 2) tNil)) tNil)) [2]) [some (.ref l), some (.int s), y2] H' (LsP (fun n _ y => y = V.int n) (ns.map fun n => ab n)) := by
          rw [← fm_some (fun n => ab n) ns]
          refine ep_lcL (K := K) (P0 := fun y n => y = V.int n) (xs := ns.map V.int) (as := ns) (fun n => some (ab n)) stb_int (ep_of (ev_var (i := 0) (v := .ref l) rfl) fun H4 e4 => ⟨l, rfl, ex_l (e2.trans e4) hS⟩) (ints_paired ns) (by rw [List.length_map]; omega) (fun x => rfl) (fun x n H4 _ _ _ => ey) fun x n b H4 e4 p0 _ hb => ?_
          have eb := Option.some.inj hb
          subst eb p0
          exact ep_of (ev_cb (ea_cons (ev_cb (ea_cons (ev_var (i := 2) rfl) ea_nil) rc_int) ea_nil) rc_abs) fun _ _ => rfl
        refine hc H3 e3 _ fun v H4 e4 hv => ?_
        obtain ⟨x, rfl, hx⟩ := hv.ints
        exact ea_cons (ev_un ev_c ru_neg) (ea_cons ev_c (ea_cons (ev_var (i := 1) (v := .int s) rfl) ea_nil)) H4 (Ex.refl H4) _ fun H5 e5 => k _ H5 (e4.trans e5) ⟨x, (((e2.trans e3).trans e4)).trans e5, rfl, e5 x _ hx⟩
      · obtain ⟨x, e4, rfl, hx⟩ := hv
        refine ⟨p, rfl, fresh_back e4 np, x, ns.map fun n => ab n, -1, 0, s, upd_same, Ex.new np x _ hx, fun c hc => ?_, by decide, by decide, h0, h1⟩
        obtain ⟨n, _, rfl⟩ := List.mem_map.mp hc
        exact ab_nn n
theorem scWLit : FnScope ["_law_draw_here", "_law_variables_here", "_law_v"] ["_law_draw_here", "_law_variables_here"] (defScope wLit) := ⟨rfl, rfl, rfl, by decide +kernel, rfl, by decide +kernel, by decide +kernel⟩
theorem ev_lenI {a : Addr} {te : TE} {v : V} {ns : List Int} (h : Ev te σ H v) (hv : SeqI a ns H v) : Ev (tCB (rLenS K) (tCons te tNil)) σ H (.int (ns.length : Int)) := by
  obtain ⟨p, rfl, hp⟩ := hv
  refine ev_cb (ea_cons h ea_nil) fun H1 e Q q => ⟨p, ns.map V.int, rfl, ?_, by rw [List.length_map]; exact q H1 (Ex.refl H1)⟩
  rcases hp with ⟨_, hp⟩ | hp
  · exact .inl (sq_of (e p _ hp))
  · exact .inr (st_of (e p _ hp))
theorem ok_wlit {f f1 : Addr} {fd fd1 : FuncData} {k : Nat} (F : FnP K "_law_literal" wLit f fd) (bi : Bi mg) (TK : Fn P w K mg base "_law_take" (k + 1) f1 fd1 ["_law_draw_here", "_law_many"] spTake) : FnOk P w K mg base CX0 (k + 2) f fd ["_law_draw_here", "_law_variables_here"] spLit := by
  refine F.ok scWLit (fun vs H Q E h => ?_) (fun cdv A outer s H vs Q E hr h => ?_)
  · obtain ⟨v, c, _, rfl, _⟩ := h
    rfl
  · obtain ⟨a, v, ns, rfl, hD, hv, hne, hl, q⟩ := h
    have h0 : 0 < ns.length := List.length_pos_iff.mpr hne
    refine ⟨_, PSs.nox (pss_cons (ps_set (i := 2) scWLit.nd rfl (.inl rfl) (pe_ix ix_seq (pv 1) (TK.pe hr (by rfl) (pa_cons (pv 0) (pa_cons (pe_callB (r := rLenS K) call_len_seq (by rfl) bi.len (by decide +kernel) (pa_cons (pv 1) pa_nil)) pa_nil))) (fun _ _ => rfl)))
      (pss_one (ps_ret (pe_ix ix_seq (pe_lst (pa_cons (pv 2) (pa_cons (pe_un un_neg (pv 2)) pa_nil))) (TK.pe hr (by rfl) (pa_cons (pv 0) (pa_cons pe_int pa_nil))) (fun _ _ => rfl))))), ?_⟩
    refine r_asgS (a := a) (P := fun _ z => ∃ x, z = .int x ∧ x ∈ ns) (er_op (P1 := SeqI a ns) (P2 := fun _ z => ∃ r, z = .int r ∧ (0 ≤ r ∧ r < (ns.length : Int))) (er_of fun H1 e => ep_of (ev_var (i := 1) (v := v) rfl) fun H2 e2 => SeqI.mr H H2 v (e.trans (Rl.of e2)) hv) SeqI.mr (fun w H1 e h1 => er_take (e.dr hD) rfl (er_of fun H2 e2 => ep_of (ev_lenI (ev_var (i := 1) rfl) (SeqI.mr H H2 v (e.trans e2) hv)) fun _ _ => rfl) (by omega) (by omega)) fun w w' H1 e h1 h2 Q k => ?_) fun z H1 e1 hz => ?_
    · obtain ⟨r, rfl, hr0, hr1⟩ := h2
      obtain ⟨n, hn, hat⟩ := at_ints hr0 hr1
      obtain ⟨p, rfl, hp⟩ := h1
      rcases hp with ⟨_, hp⟩ | hp
      · exact .inl ⟨p, _, r, _, rfl, rfl, sq_of hp, hat, k _ H1 (Ex.refl H1) ⟨n, rfl, hn⟩⟩
      · exact .inr (.inl ⟨p, _, r, _, rfl, rfl, st_of hp, hat, k _ H1 (Ex.refl H1) ⟨n, rfl, hn⟩⟩)
    · obtain ⟨x, rfl, hx⟩ := hz
      have hD1 := e1.dr hD
      refine r_ret (a := a) (P := fun _ z => ∃ l, z = .int l ∧ (l = x ∨ l = -x)) (er_op (P1 := SeqI a [x, -x]) (P2 := fun _ z => ∃ r, z = .int r ∧ (0 ≤ r ∧ r < 2)) (er_of fun H2 e2 => ep_lst (PA := fun H3 vs => vs = [.int x, .int (-x)] ∧ Ex H2 H3) (fun H3 e3 Q k => ea_cons (ev_var (i := 2) (v := .int x) rfl) (ea_cons (ev_un (ev_var (i := 2) (v := .int x) rfl) ru_neg) ea_nil) H3 e3 Q fun H4 e4 => k _ H4 e4 ⟨rfl, e3.trans e4⟩) (fun vs _ hv => by rw [hv.1]; exact (by decide : 2 ≤ 100000)) fun vs H3 p e3 hv np => ⟨p, rfl, .inl ⟨fun z => ?_, by rw [upd_same, hv.1]; rfl⟩⟩) SeqI.mr (fun w H2 e2 _ => er_takeC (e2.dr hD1) rfl (by decide) (by decide)) fun w w' H2 e2 h1 h2 Q k => ?_) fun z H2 e2 hz => ?_
      · obtain ⟨_, _, _, _, _, h3, _⟩ := (e2.dr hD1).ex hv.2
        rw [z, h3] at np
        cases np
      · obtain ⟨r, rfl, hr0, hr1⟩ := h2
        obtain ⟨n, hn, hat⟩ := at_ints (ns := [x, -x]) hr0 hr1
        obtain ⟨p, rfl, hp⟩ := h1
        rcases hp with ⟨_, hp⟩ | hp
        · exact .inl ⟨p, _, r, _, rfl, rfl, sq_of hp, hat, k _ H2 (Ex.refl H2) ⟨n, rfl, by simpa using hn⟩⟩
        · exact .inr (.inl ⟨p, _, r, _, rfl, rfl, st_of hp, hat, k _ H2 (Ex.refl H2) ⟨n, rfl, by simpa using hn⟩⟩)
      · obtain ⟨l, rfl, hl⟩ := hz
        exact q l H2 (e1.trans e2) ⟨x, hx, hl⟩
end
end Cw

set_option Elab.async false
set_option linter.all false
set_option maxRecDepth 100000
set_option maxHeartbeats 2000000
/-! A clause made, clauses drawn. -/
namespace Cw
open PySem PySem.Spec PyProof.Rows L2 Evl

abbrev wCl : Stmt := top 21
abbrev wCls : Stmt := top 27
def spCl : Sp := fun vs H Q _ => ∃ (p : Addr) (ls : List Int), vs = [.ref p] ∧ H p = some (.lst (ls.map V.int)) ∧ ls.length ≤ 60 ∧ ∀ z H', Ex H H' → (z = .non ∨ ∃ c, TkL H' z c ∧ c.Nodup ∧ c.length ≤ ls.length ∧ ∀ x ∈ c, x ∈ ls) → Q z H'
def GoodC (ns c : List Int) : Prop := c.Nodup ∧ c.length ≤ 4 ∧ ∀ l ∈ c, ∃ x ∈ ns, l = x ∨ l = -x
def spCls : Sp := fun vs H Q _ => ∃ (a : Addr) (v : V) (ns : List Int) (n : Int), vs = [.ref a, v, .int n] ∧ Dr a H ∧ SeqI a ns H v ∧ ns ≠ [] ∧ ns.length ≤ 1000 ∧ 0 ≤ n ∧ n ≤ 15 ∧
  ∀ z H' R, Rl a H H' → TkR H' z R → R.length ≤ 15 → (∀ c ∈ R, GoodC ns c) → Q z H'
section
variable {K : PySem.W.Frag} {a : Addr} {σ : L2.St} {H H' : Hp} {ta tb te : TE} {t : TT} {r : R2} {P P1 P2 : Hp → V → Prop} {D : Ends} {tu tw tz : TS}
theorem r_forR {ta : TA} {j : Nat} {n : Int} (h : EvRA a ta σ H (fun _ vs => ∃ m, vs = [.int m] ∧ 0 ≤ m ∧ m ≤ n)) (hn : n ≤ 100000) (Pv : Nat → L2.St → Hp → Prop) (h0 : ∀ H1, Rl a H H1 → Pv 0 σ H1)
    (hs : ∀ (i : Nat) σ' H', (i : Int) < n → Pv i σ' H' → tu { D with nx := Pv (i + 1), ct := Pv (i + 1), bk := tz D } (σ'.set j (some (.int (i : Int)))) H') (hd : ∀ (i : Nat) σ' H', (i : Int) ≤ n → Pv i σ' H' → tz D σ' H') : tSeq (tFor (iRng1 ta) (gName j) tu) tz D σ H :=
  h H (Rl.refl a H) _ fun vs H1 e hv => by
    obtain ⟨m, rfl, m0, m1⟩ := hv
    refine ⟨m, rfl, by omega, by omega, for_range (D := { D with nx := tz D }) (lo := 0) (n := m.toNat) Pv (h0 H1 e) (fun i σ' H' hi p => ?_) fun σ' H' p => hd _ σ' H' (by omega) p⟩
    have e0 : (0 : Int) + (i : Int) = (i : Int) := Int.zero_add _
    show tu { D with nx := Pv (i + 1), ct := Pv (i + 1), bk := tz D } (σ'.set j (some (.int ((0 : Int) + (i : Int))))) H'
    rw [e0]
    exact hs i σ' H' (by omega) p
theorem er_a1' {lo hi : Int} {p : Int → Prop} (h : EvR a te σ H (fun _ z => ∃ r, z = .int r ∧ p r)) (hb : ∀ r, p r → lo ≤ r ∧ r ≤ hi) : EvRA a (tCons te tNil) σ H (fun _ vs => ∃ m, vs = [.int m] ∧ lo ≤ m ∧ m ≤ hi) := fun H1 e Q q => er_a1 h H1 e Q fun vs H2 e2 hv => q vs H2 e2 (by
  obtain ⟨w, rfl, r, rfl, hp⟩ := hv
  exact ⟨r, rfl, hb r hp⟩)
theorem r_if (h : EvRT a t σ H) (h1 : ∀ H1, Rl a H H1 → tu D σ H1) (h2 : ∀ H1, Rl a H H1 → tw D σ H1) : tIfS t tu tw D σ H := h H (Rl.refl a H) _ fun b H1 e => by
  cases b with
  | true => exact h1 H1 e
  | false => exact h2 H1 e
def consts : List Int → TA
  | [] => tNil
  | n :: ns => tCons (tC (.int n)) (consts ns)
theorem ea_consts : ∀ ns : List Int, EvA (consts ns) σ H (ns.map V.int)
  | [] => ea_nil
  | n :: ns => ea_cons ev_c (ea_consts ns)
theorem not_at (h : Dr a H) : ¬ H a = none := fun z => by
  obtain ⟨_, _, _, _, _, h3, _⟩ := h
  rw [z] at h3
  cases h3
theorem er_disp (hD : Dr a H) (ns : List Int) (hl : ns.length ≤ 1000) : EvR a (tLst (consts ns)) σ H (SeqI a ns) := er_of fun H2 e2 => ep_lst (PA := fun H3 vs => vs = ns.map V.int ∧ Ex H2 H3) (fun H3 e3 Q k => ea_consts ns H3 e3 Q fun H4 e4 => k _ H4 e4 ⟨rfl, e3.trans e4⟩) (fun vs _ hv => by rw [hv.1, List.length_map]; omega) fun vs H3 p e3 hv np => ⟨p, rfl, .inl ⟨fun z => not_at ((e2.dr hD).ex hv.2) (by rw [← z]; exact np), by rw [upd_same, hv.1]⟩⟩
/-- xs[r] of a row of ints -/
theorem rv_at {K : PySem.W.Frag} {ns : List Int} {w w' : V} {p : Int → Prop} {n : Int} (h1 : SeqI a ns H w) (h2 : ∃ r, w' = .int r ∧ (0 ≤ r ∧ r < n)) (hn : n = (ns.length : Int)) (hp : ∀ x ∈ ns, p x) : RvP (rIx K) w w' H (fun _ z => ∃ x, z = .int x ∧ p x) := fun Q k => by
  obtain ⟨r, rfl, hr0, hr1⟩ := h2
  obtain ⟨n, hn, hat⟩ := at_ints (ns := ns) hr0 (by omega)
  obtain ⟨p, rfl, hp'⟩ := h1
  rcases hp' with ⟨_, hp'⟩ | hp'
  · exact .inl ⟨p, _, r, _, rfl, rfl, sq_of hp', hat, k _ H (Ex.refl H) ⟨n, rfl, hp n hn⟩⟩
  · exact .inr (.inl ⟨p, _, r, _, rfl, rfl, st_of hp', hat, k _ H (Ex.refl H) ⟨n, rfl, hp n hn⟩⟩)
theorem er_lcR {ta : TA} {j : Nat} {vs : List Nat} {lo n : Int} {p : Int → Prop} (hD : Dr a H) (h : EvRA a ta σ H (fun _ vs => ∃ m, vs = [.int m] ∧ lo ≤ m ∧ m ≤ n)) (h0 : 0 ≤ lo) (hn : n ≤ 1000) (hw : ∀ x, wipe ((wipe σ vs).set j (some x)) vs = wipe σ vs)
    (he : ∀ (i : Nat) H1, Rl a H H1 → (i : Int) < n → EvR a te ((wipe σ vs).set j (some (.int (i : Int)))) H1 (fun _ z => ∃ l, z = .int l ∧ p l)) :
    EvR a (tLc (iRng1 ta) (gName j) tYes te vs) σ H (fun H2 v => ∃ (q : Addr) (ls : List Int), v = .ref q ∧ q ≠ a ∧ H2 q = some (.lst (ls.map V.int)) ∧ lo ≤ (ls.length : Int) ∧ (ls.length : Int) ≤ n ∧ ∀ l ∈ ls, p l) := fun H0 e Q q => h H0 e _ fun vs' H1 e1 hv => by
  obtain ⟨m, rfl, m0, m1⟩ := hv
  refine ⟨m, rfl, by omega, by omega, fun Dl nD => lc_range (lo := 0) (n := m.toNat) (fun i H' => ∃ ls : List Int, Rl a H1 H' ∧ H' Dl = some (.lst (ls.map V.int)) ∧ ls.length = i ∧ ∀ l ∈ ls, p l) ⟨[], Rl.of (Ex.new nD), upd_same, rfl, fun l hl => by cases hl⟩ (fun i H' hi w => ?_) fun H' w => ?_⟩
  · obtain ⟨ls, el, hl, hn2, hp⟩ := w
    have e0 : (0 : Int) + (i : Int) = (i : Int) := Int.zero_add _
    have hDa : Dl ≠ a := fun z => by
      obtain ⟨x, cs, _, _, _, g, _⟩ := (e.trans e1).dr hD
      rw [← z, nD] at g
      cases g
    refine ⟨hw _, ?_⟩
    simp only [tYes, if_true]
    rw [e0]
    refine he i H' ((e.trans e1).trans el) (by omega) H' (Rl.refl a H') _ fun y H4 e4 hy => ?_
    obtain ⟨l, rfl, hpl⟩ := hy
    refine ⟨ls.map V.int, e4.exm Dl _ hDa hl, sz_lt (by rw [List.length_map]; omega), ls ++ [l], (el.trans e4).mut nD, by rw [upd_same, List.map_append]; rfl, by rw [List.length_append, hn2]; rfl, fun k hk => ?_⟩
    rcases List.mem_append.mp hk with hk | hk
    · exact hp k hk
    · obtain rfl : k = l := by simpa using hk
      exact hpl
  · obtain ⟨ls, el, hl, hn2, hp⟩ := w
    refine q _ _ (e1.trans el) ⟨Dl, ls, rfl, fun z => ?_, hl, by omega, by omega, hp⟩
    obtain ⟨x, cs, _, _, _, g, _⟩ := (e.trans e1).dr hD
    rw [← z, nD] at g
    cases g
end
section
variable {P : Program} {w : World} {K : PySem.W.Frag} {mg : Str → Option Value} {base : Heap} {σ : L2.St} {H : Hp}
theorem scWCl : FnScope ["_law_literals", "_law_literal_here"] ["_law_literals"] (defScope wCl) := ⟨rfl, rfl, rfl, by decide +kernel, rfl, by decide +kernel, by decide +kernel⟩
theorem ok_wcl {f f1 f2 : Addr} {fd fd1 fd2 : FuncData} {k : Nat} (F : FnP K "_law_clause" wCl f fd) (bi : Bi mg) (ON : Fn P w K mg base "_law_once" (k + 1) f2 fd2 ["_law_row"] (spOnce K)) (LK : Fn P w K mg base "_law_key" (k + 1) f1 fd1 ["_law_literal_here"] spLK) : FnOk P w K mg base CX0 (k + 4) f fd ["_law_literals"] spCl := by
  refine F.ok scWCl (fun vs H Q E h => ?_) (fun cdv A outer s H vs Q E hr h => ?_)
  · obtain ⟨v, c, rfl, _⟩ := h
    rfl
  · obtain ⟨p, ls, rfl, hp, hl, q⟩ := h
    refine ⟨_, PSs.nox (pss_cons (ps_if (pt_cmpR (op_neD hr.units) (pe_lc (own := [("_law_literal_here", 1)]) (g := gName 1) rfl scWCl.nd (pi_list (pv 0)) (blkOk_by (N := ["_law_literals", "_law_literal_here"]) (sc := defScope wCl) (by decide +kernel))
          (fun _ _ _ _ _ => pg_name (i := 1) scWCl.nd rfl (Or.inl rfl)) (fun _ _ _ _ _ => pts_one (pt_cmpR (r := rIn K false) op_in_seq (pe_un un_neg (pv 1)) (pv 0) (by rfl))) (fun _ _ _ _ _ => pv 1)) (pe_lst pa_nil) (nomark _))
        (pss_one (ps_ret pe_non)) pss_nil)
      (pss_one (ps_ret (pe_callTy call_tuple_of (by rfl) bi.tuple (by decide +kernel) (pa_cons (pe_callBK (cr_sortedF LK.ok hr LK.b) (by rfl) bi.sorted (by decide +kernel) (pa_cons (ON.pe (hr.mono (by omega)) (by rfl) (pa_cons (pv 0) pa_nil)) pa_nil) (pk_cons (LK.glob (by rfl)) pk_nil)) pa_nil))))), ?_⟩
    have hls : ∀ H1, Ex H H1 → LsP (fun n _ y => y = V.int n) ls H1 (.ref p) := fun H1 e => LsP.of_ints (e p _ hp)
    refine q_when (b := !decide ((ls.filter fun l => decide (-l ∈ ls)) = [])) (et_op (P1 := LsP (fun n _ y => y = V.int n) (ls.filter fun l => decide (-l ∈ ls))) (P2 := LsP (fun n _ y => y = V.int n) []) ?_ (LsP.moP stb_int) (fun _ _ _ _ => ep_lst0) fun w w' H1 e1 h1 h2 => rv_neL enc_I eqv_int h1 h2) (fun hb H1 e1 => ?_) fun hb H1 e1 => ?_
    · rw [← fm_filt]
      refine ep_lcL (K := K) (σ := [some (.ref p), none]) (vs := [1]) (j := 1) (P0 := fun y n => y = V.int n) (xs := ls.map V.int) (as := ls) (fun l => if decide (-l ∈ ls) = true then some l else none) stb_int (ep_of (ev_var (i := 0) (v := .ref p) rfl) fun H1 e => ⟨p, rfl, sq_of (e p _ hp)⟩) (ints_paired ls) (by rw [List.length_map]; omega) (fun x => rfl) (fun y n H1 e hy _ => ?_) fun y n m H1 e hy _ hf => ?_
      · subst hy
        rw [is_som]
        exact et_test (ev_op (ev_un (ev_var (i := 1) (v := .int n) rfl) ru_neg) (ev_var (i := 0) (v := .ref p) rfl) (rv_inIL (e p _ hp)))
      · subst hy
        obtain ⟨_, rfl⟩ := of_som hf
        exact ep_of (ev_var (i := 1) rfl) fun _ _ => rfl
    · exact p_ret (P := fun _ z => z = .non) (ep_of ev_c fun _ _ => rfl) fun v H2 e2 hv => q v H2 (e1.trans e2) (.inl hv)
    · refine p_ret (P := fun H v => TkL H v (srtL (once ls))) (ep_imp (ep_tuple (Pb := fun n _ y => y = V.int n) (bs := srtL (once ls)) stb_int (ep_ckw (ep_a1 (ep_call (P := LsP (fun n _ y => y = V.int n) (once ls)) (ep_a1 (ep_of (P := LsP (fun n _ y => y = V.int n) ls) (ev_var (i := 0) (v := .ref p) rfl) fun H2 e2 => hls H2 (e1.trans e2))) fun vs H2 e2 hv => ?_)) fun vs H2 e2 hv => ?_)) fun w H1 _ h => h.ints) fun v H2 e2 hv => q v H2 (e1.trans e2) (.inr ⟨srtL (once ls), hv, ?_, ?_, fun x hx => ?_⟩)
      · obtain ⟨z, rfl, hz⟩ := hv
        exact sp_once enc_I eqv_int hz hl
      · obtain ⟨z, rfl, hz⟩ := hv
        exact rc_srt stb_int hz ko_lk
      · exact (List.mergeSort_perm (once ls) _).nodup_iff.mpr (nodup_once ls)
      · exact Nat.le_trans (Nat.le_of_eq (List.mergeSort_perm (once ls) _).length_eq) (len_once ls)
      · exact mem_once.mp ((List.mergeSort_perm (once ls) _).mem_iff.mp hx)
abbrev nCls : List Str := ["_law_draw_here", "_law_variables_here", "_law_many", "_law_rows", "_law_k", "_law_size", "_law_clause_here", "_law_j"]
theorem scWCls : FnScope nCls ["_law_draw_here", "_law_variables_here", "_law_many"] (defScope wCls) := ⟨rfl, rfl, rfl, by decide +kernel, rfl, by decide +kernel, by decide +kernel⟩
theorem sp_lit {a : Addr} {v : V} {ns : List Int} (hD : Dr a H) (hv : SeqI a ns H v) (h0 : ns ≠ []) (h1 : ns.length ≤ 1000) : SpR a spLit [.ref a, v] H (fun _ z => ∃ l, z = .int l ∧ ∃ x ∈ ns, l = x ∨ l = -x) := fun H1 e Q q E => ⟨a, v, ns, rfl, e.dr hD, SeqI.mr H H1 v e hv, h0, h1, fun l H' e' hl => q _ H' e' ⟨l, rfl, hl⟩⟩
/-- rows under way -/
def Rw (a : Addr) (ns : List Int) (H : Hp) (r : Addr) (i : Nat) (H' : Hp) : Prop := Rl a H H' ∧ ∃ ys cs, H' r = some (.lst ys) ∧ Paired (TkL H') ys cs ∧ cs.length ≤ i ∧ ∀ c ∈ cs, GoodC ns c
theorem Rw.rl {a r : Addr} {ns : List Int} {H H' H1 : Hp} {i : Nat} (h : Rw a ns H r i H') (hr : r ≠ a) (e : Rl a H' H1) : Rw a ns H r i H1 := by
  obtain ⟨e0, ys, cs, h1, h2, h3⟩ := h
  exact ⟨e0.trans e, ys, cs, e.exm r _ hr h1, paired_imp (fun y c z => z.mono e.ext) h2, h3⟩
theorem Rw.next {a r : Addr} {ns : List Int} {H H' : Hp} {i : Nat} (h : Rw a ns H r i H') : Rw a ns H r (i + 1) H' := by
  obtain ⟨e0, ys, cs, h1, h2, h3, h4⟩ := h
  exact ⟨e0, ys, cs, h1, h2, Nat.le_succ_of_le h3, h4⟩
theorem Rw.app {a r : Addr} {ns : List Int} {H H' H1 : Hp} {i : Nat} {y : V} {c : List Int} {ys : List V} (h : Rw a ns H r i H') (hr : r ≠ a) (nr : H r = none) (e : Rl a H' H1) (hy : H' r = some (.lst ys)) (ht : TkL H1 y c) (hc : GoodC ns c) : Rw a ns H r (i + 1) (upd H1 r (.lst (ys ++ [y]))) := by
  obtain ⟨e0, zs, cs, h1, h2, h3, h4⟩ := h
  obtain rfl : zs = ys := by
    have := h1.symm.trans hy
    cases this
    rfl
  have x1 : ExT H1 (upd H1 r (.lst (zs ++ [y]))) := ExT.lst (e.exm r _ hr h1)
  refine ⟨(e0.trans e).mut nr, zs ++ [y], cs ++ [c], upd_same, paired_snoc (ht.mono x1) (paired_imp (fun y c z => (z.mono e.ext).mono x1) h2), by rw [List.length_append]; exact Nat.succ_le_succ h3, fun d hd => ?_⟩
  rcases List.mem_append.mp hd with hd | hd
  · exact h4 d hd
  · obtain rfl : d = c := by simpa using hd
    exact hc
theorem ok_wcls {f f1 f2 f3 f4 : Addr} {fd fd1 fd2 fd3 fd4 : FuncData} {k : Nat} (F : FnP K "_law_clauses" wCls f fd) (bi : Bi mg) (TK : Fn P w K mg base "_law_take" (k + 1) f1 fd1 ["_law_draw_here", "_law_many"] spTake) (LT : Fn P w K mg base "_law_literal" (k + 2) f2 fd2 ["_law_draw_here", "_law_variables_here"] spLit)
    (CL : Fn P w K mg base "_law_clause" (k + 4) f3 fd3 ["_law_literals"] spCl) (RS : Fn P w K mg base "_law_residue" (k + 5) f4 fd4 ["_law_clauses_here"] spRes) : FnOk P w K mg base CX0 (k + 6) f fd ["_law_draw_here", "_law_variables_here", "_law_many"] spCls := by
  refine F.ok scWCls (fun vs H Q E h => ?_) (fun cdv A outer s H vs Q E hr h => ?_)
  · obtain ⟨v, c, _, _, rfl, _⟩ := h
    rfl
  · obtain ⟨a, v, ns, n, rfl, hD, hv, hne, hnl, n0, n1, q⟩ := h
    refine ⟨_, PSs.nox (pss_cons (ps_set (i := 3) scWCls.nd rfl (.inl rfl) (pe_lst pa_nil))
      (pss_cons (ps_for PassesOwn.never rfl (pi_range1 (by rfl) bi.range (pa_cons (TK.pe (hr.mono (by omega)) (by rfl) (pa_cons (pv 0) (pa_cons (pe_op op_add (pv 2) pe_int) pa_nil))) pa_nil)) (pg_name (i := 4) scWCls.nd rfl (.inl rfl))
        (pss_cons (ps_set (i := 5) scWCls.nd rfl (.inl rfl) (pe_ix ix_seq (pe_lst (pa_cons pe_int (pa_cons pe_int (pa_cons pe_int (pa_cons pe_int (pa_cons pe_int (pa_cons pe_int (pa_cons pe_int (pa_cons pe_int pa_nil))))))))) (TK.pe (hr.mono (by omega)) (by rfl) (pa_cons (pv 0) (pa_cons pe_int pa_nil))) (fun _ _ => rfl)))
        (pss_cut (ps_if (pt_cmpR op_eq (TK.pe (hr.mono (by omega)) (by rfl) (pa_cons (pv 0) (pa_cons pe_int pa_nil))) pe_int (nomark _)) (pss_one (ps_set (i := 5) scWCls.nd rfl (.inl rfl) pe_int)) pss_nil)
        (pss_cons (ps_set (i := 6) scWCls.nd rfl (.inl rfl) (CL.pe (hr.mono (by omega)) (by rfl) (pa_cons (pe_lc (own := [("_law_j", 7)]) (g := gName 7) rfl scWCls.nd (pi_range1 (by rfl) bi.range (pa_cons (pv 5) pa_nil)) (blkOk_by (N := nCls) (sc := defScope wCls) (by decide +kernel))
            (fun _ _ _ _ _ => pg_name (i := 7) scWCls.nd rfl (Or.inl rfl)) (fun _ _ _ _ _ => pts_nil) (fun _ _ _ _ _ => LT.pe (hr.mono (by omega)) (by rfl) (pa_cons (pv 0) (pa_cons (pv 1) pa_nil)))) pa_nil)))
        (pss_one (ps_if (pt_cmpR op_notN (pv 6) pe_non (nomark _)) (pss_one (ps_expr (pe_bm PySem.F.plainAttrs_list PySem.F.slot_list_append PySem.F.type_list_append mt_append (pv 3) (pa_cons (pv 6) pa_nil)))) pss_nil))))))
      (pss_one (ps_ret (RS.pe hr (by rfl) (pa_cons (pv 3) pa_nil)))))), ?_⟩
    refine q_asgL (el_lst ea_nil (by decide)) fun r H1 nr e1 hr1 => ?_
    have hra : r ≠ a := fun z => by
      obtain ⟨x, cs, _, _, _, g, _⟩ := hD
      rw [← z, nr] at g
      cases g
    have hD1 := hD.ex e1
    refine r_forR (a := a) (n := 15) (er_a1' (er_take (i := 0) (n := n + 1) hD1 rfl (er_of fun H2 e2 => ep_of (ev_op (ev_var (i := 2) (v := .int n) rfl) ev_c rv_I0) fun _ _ => rfl) (by omega) (by omega)) fun r h0 => ⟨h0.1, by omega⟩) (by decide) (fun i σ' H' => ∃ y4 y5 y6, σ' = [some (.ref a), some v, some (.int n), some (.ref r), y4, y5, y6, none] ∧ Rw a ns H r i H')
      (fun H2 e2 => ⟨none, none, none, rfl, (Rl.of e1).trans e2, [], [], e2.exm r _ hra hr1, .nil, Nat.le_refl _, fun c hc => by cases hc⟩) (fun i σ' H' hi p => ?_) fun i σ' H' hi p => ?_
    · obtain ⟨y4, y5, y6, rfl, w⟩ := p
      have hD2 := w.1.dr hD
      refine r_asgS (a := a) (P := fun _ z => ∃ s, z = .int s ∧ (0 ≤ s ∧ s ≤ 4)) (er_op (P1 := SeqI a [2, 3, 2, 3, 1, 4, 2, 3]) (P2 := fun _ z => ∃ r, z = .int r ∧ (0 ≤ r ∧ r < 8)) (er_disp hD2 [2, 3, 2, 3, 1, 4, 2, 3] (by decide)) SeqI.mr (fun w H3 e3 _ => er_takeC (i := 0) (e3.dr hD2) rfl (by decide) (by decide)) fun w w' H3 e3 h1 h2 => rv_at h1 h2 rfl (by decide)) fun z H3 e3 hz => ?_
      obtain ⟨s, rfl, s0, s1⟩ := hz
      have w3 := w.rl hra e3
      have hD3 := w3.1.dr hD
      refine q_cut (M := fun σ' H' => ∃ s, σ' = [some (.ref a), some v, some (.int n), some (.ref r), some (.int (i : Int)), some (.int s), y6, none] ∧ 0 ≤ s ∧ s ≤ 4 ∧ Rw a ns H r i H') (r_if (a := a) (rt_op (P1 := fun _ z => ∃ r, z = .int r ∧ (0 ≤ r ∧ r < 60)) (P2 := fun _ z => z = .int 0) (er_takeC (i := 0) hD3 rfl (by decide) (by decide)) mr_int (fun _ _ _ _ => er_c) fun w w' H4 e4 h1 h2 Q k => ?_) (fun H4 e4 => ?_) fun H4 e4 => ⟨s, rfl, s0, s1, w3.rl hra e4⟩) fun σ' H' M => ?_
      · obtain ⟨r, rfl, _⟩ := h1
        subst h2
        exact ⟨rfl, k _ H4 (Ex.refl H4) ⟨_, rfl⟩⟩
      · exact s_asg ev_c fun H5 e5 => ⟨0, rfl, by decide, by decide, (w3.rl hra e4).rl hra (Rl.of e5)⟩
      · obtain ⟨s, rfl, s0, s1, w4⟩ := M
        have hD4 := w4.1.dr hD
        have hv4 := SeqI.mr H _ v w4.1 hv
        refine r_asgS (a := a) (P := fun H z => z = .non ∨ ∃ c, TkL H z c ∧ GoodC ns c) (er_call (er_a1 (er_lcR (σ := [some (.ref a), some v, some (.int n), some (.ref r), some (.int (i : Int)), some (.int s), y6, none]) (vs := [7]) (j := 7) (lo := 0) (n := 4) (p := fun l => ∃ x ∈ ns, l = x ∨ l = -x) hD4 (er_a1' (p := fun r => r = s) (er_of fun H5 e5 => ep_of (ev_var (i := 5) rfl) fun _ _ => ⟨s, rfl, rfl⟩) fun r h => ⟨by omega, by omega⟩) (by decide) (by decide) (fun _ => rfl) fun j H5 e5 _ => ?_)) fun vs H5 e5 hv5 => ?_) fun z H5 e5 hz => ?_
        · refine er_call (er_a2 (P1 := fun _ z => z = .ref a) (P2 := fun _ z => z = v) (er_of fun H6 e6 => ep_of (ev_var (i := 0) rfl) fun _ _ => rfl) mr_eq fun w H6 e6 _ => er_of fun H7 e7 => ep_of (ev_var (i := 1) rfl) fun _ _ => rfl) fun vs H6 e6 hv6 => ?_
          obtain ⟨z, z', rfl, rfl, rfl⟩ := hv6
          exact sp_lit ((e5.trans e6).dr hD4) (SeqI.mr _ _ _ (e5.trans e6) hv4) hne hnl
        · obtain ⟨z, rfl, q1, ls, rfl, hqa, hq, _, hl, hls⟩ := hv5
          refine sr_of fun H6 e6 => fun H7 e7 Q k E => ⟨q1, ls, rfl, e7 q1 _ (e6.exm q1 _ hqa hq), by omega, fun z H8 e8 hz => k z H8 e8 (hz.imp id fun h => ?_)⟩
          obtain ⟨c, h1, h2, h3, h4⟩ := h
          exact ⟨c, h1, h2, by omega, fun l hl => hls l (h4 l hl)⟩
        · have w5 := w4.rl hra e5
          refine s_when (b := !decide (z = .non)) (et_test (ev_op (ev_var (i := 6) (v := z) rfl) ev_c fun H6 e6 Q k => ⟨rfl, k H6 (Ex.refl H6)⟩)) (fun hb H6 e6 => ?_) fun hb H6 e6 => ⟨_, _, _, rfl, (w5.rl hra (Rl.of e6)).next⟩
          rcases hz with rfl | ⟨c, hc, hg⟩
          · cases hb
          · have w6 := w5.rl hra (Rl.of e6)
            obtain ⟨_, ys, cs, hy, py, hcl, _⟩ := id w6
            have hi15 : i < 15 := by omega
            have hyl := Paired.length py
            refine p_app (K := K) (P := fun H y => TkL H y c) hy (ev_var (i := 3) rfl) (ep_of (ev_var (i := 6) (v := z) rfl) fun H7 e7 => hc.mono (ExT.of (e6.trans e7))) (by omega) fun y H7 e7 hy7 => ⟨_, _, _, rfl, w6.app hra nr (Rl.of e7) hy hy7 hg⟩
    · obtain ⟨y4, y5, y6, rfl, w⟩ := p
      obtain ⟨e0, ys, cs, hy, py, hcl, hg⟩ := w
      have hcs : Sm cs := ⟨by omega, fun c hc => (hg c hc).2.1⟩
      refine p_ret (P := fun H v => TkR H v (resM cs)) (ep_call (ep_a1 (ep_of (P := ClsP cs) (ev_var (i := 3) rfl) fun H2 e2 => ClsP.mono e2 ⟨r, ys, rfl, hy, py⟩)) fun vs H2 e2 hv => by
        obtain ⟨z, rfl, hz⟩ := hv
        exact sp_resS hz hcs) fun z H2 e2 hz => q z H2 (resM cs) (e0.trans (Rl.of e2)) hz (Nat.le_trans (len_resM cs) (by omega)) fun c hc => hg c (mem_resM.mp hc)
end
end Cw

set_option Elab.async false
set_option linter.all false
set_option maxRecDepth 100000
set_option maxHeartbeats 2000000
/-! The formula drawn. -/
namespace Cw
open PySem PySem.Spec PyProof.Rows L2 Evl

abbrev wForm : Stmt := top 28
def Bd (x : Int) : Prop := -1000 ≤ x ∧ x ≤ 1000
/-- what is drawn -/
structure FormM (sh hi : List Int) (R : List (List Int)) : Prop where
  ls : sh.length ≤ 20
  lh : hi.length ≤ 20
  ne : sh ++ hi ≠ []
  bs : ∀ x ∈ sh, Bd x
  bh : ∀ x ∈ hi, Bd x
  sm : Sm R
  nd : ∀ c ∈ R, c.Nodup
  br : ∀ c ∈ R, ∀ l ∈ c, Bd l
def FormP (sh hi : List Int) (R : List (List Int)) (H : Hp) (t : V) : Prop := ∃ p s h r, t = .ref p ∧ H p = some (.tup [s, h, r]) ∧ TkL H s sh ∧ TkL H h hi ∧ TkR H r R
def spForm : Sp := fun vs H Q _ => ∃ (a : Addr), vs = [.ref a, .int 6] ∧ Dr a H ∧ ∀ t H' sh hi R, Rl a H H' → FormP sh hi R H' t → FormM sh hi R → Q t H'
section
variable {K : PySem.W.Frag} {a : Addr} {σ : L2.St} {H H' : Hp} {ta tb te : TE} {t : TT} {r : R2} {P P1 P2 : Hp → V → Prop} {D : Ends} {tu tw tz : TS}
theorem er_tup {ta : TA} {PA : Hp → List V → Prop} (h : EvRA a ta σ H PA) (hl : ∀ vs H1, PA H1 vs → vs.length ≤ 100000) (hp : ∀ vs H1 p, Rl a H H1 → PA H1 vs → H1 p = none → P (upd H1 p (.tup vs)) (.ref p)) : EvR a (tTup ta) σ H P := fun H1 e Q q =>
  h H1 e _ fun vs H2 e2 hv => ⟨sz_of (hl vs H2 hv), fun p np => q _ _ (e2.trans (Rl.of (Ex.new np))) (hp vs H2 p (e.trans e2) hv np)⟩
theorem er_a3 {P3 : Hp → V → Prop} {tc : TE} (ha : EvR a ta σ H P1) (m : MoR a P1) (hb : ∀ w H1, Rl a H H1 → P1 H1 w → EvR a tb σ H1 P2) (m2 : MoR a P2) (hc : ∀ w w' H1, Rl a H H1 → P1 H1 w → P2 H1 w' → EvR a tc σ H1 P3) :
    EvRA a (tCons ta (tCons tb (tCons tc tNil))) σ H (fun H2 vs => ∃ w w' w'', vs = [w, w', w''] ∧ P1 H2 w ∧ P2 H2 w' ∧ P3 H2 w'') := fun H1 e Q q =>
  ha H1 e _ fun w H2 e2 hw => hb w H2 (e.trans e2) hw H2 (Rl.refl a H2) _ fun w' H3 e3 hw' => hc w w' H3 ((e.trans e2).trans e3) (m H2 H3 w e3 hw) hw' H3 (Rl.refl a H3) _ fun w'' H4 e4 hw'' =>
    q [w, w', w''] H4 ((e2.trans e3).trans e4) ⟨w, w', w'', rfl, m H2 H4 w (e3.trans e4) hw, m2 H3 H4 w' e4 hw', hw''⟩
theorem mrL {ns : List Int} : MoR a (fun H v => TkL H v ns) := fun _ _ _ e h => h.mono e.ext
/-- i + take -/
theorem er_addT {i n : Int} (h : EvR a tb σ H (fun _ z => ∃ r, z = .int r ∧ (0 ≤ r ∧ r < n))) : EvR a (tOp (rI0 fun i j => .int (i + j)) (tC (.int i)) tb) σ H (fun _ z => ∃ r, z = .int r ∧ (i ≤ r ∧ r < n + i)) :=
  er_op (P1 := fun _ z => z = .int i) (P2 := fun _ z => ∃ r, z = .int r ∧ (0 ≤ r ∧ r < n)) er_c mr_eq (fun w H1 e _ => fun H2 e2 Q q => h H2 (e.trans e2) Q q) fun w w' H1 e h1 h2 Q k => by
    obtain ⟨r, rfl, h3, h4⟩ := h2
    subst h1
    exact ⟨i, r, rfl, rfl, k _ H1 (Ex.refl H1) ⟨_, rfl, by omega, by omega⟩⟩
end
section
variable {P : Program} {w : World} {K : PySem.W.Frag} {mg : Str → Option Value} {base : Heap} {σ : L2.St} {H : Hp}
abbrev nForm : List Str := ["_law_draw_here", "_law_most", "_law_gap", "_law_count", "_law_more", "_law_k", "_law_variables_here", "_law_hidden", "_law_v", "_law_shown"]
theorem scWForm : FnScope nForm ["_law_draw_here", "_law_most"] (defScope wForm) := ⟨rfl, rfl, rfl, by decide +kernel, rfl, by decide +kernel, by decide +kernel⟩
theorem sp_cls {a : Addr} {v : V} {ns : List Int} {n : Int} (hD : Dr a H) (hv : SeqI a ns H v) (h0 : ns ≠ []) (h1 : ns.length ≤ 1000) (n0 : 0 ≤ n) (n1 : n ≤ 15) : SpR a spCls [.ref a, v, .int n] H (fun H z => ∃ R, TkR H z R ∧ R.length ≤ 15 ∧ ∀ c ∈ R, GoodC ns c) := fun H1 e Q q E =>
  ⟨a, v, ns, n, rfl, e.dr hD, SeqI.mr H H1 v e hv, h0, h1, n0, n1, fun z H' R e' hz hl hg => q z H' e' ⟨R, hz, hl, hg⟩⟩
/-- the hidden ones under way -/
def Hw (a : Addr) (ns : List Int) (H : Hp) (h : Addr) (i : Nat) (H' : Hp) : Prop := Rl a H H' ∧ ∃ hs : List Int, H' h = some (.lst (hs.map V.int)) ∧ hs.length ≤ i ∧ ∀ x ∈ hs, x ∈ ns
theorem ok_wform {f f1 f2 : Addr} {fd fd1 fd2 : FuncData} {k : Nat} (F : FnP K "_law_formula" wForm f fd) (bi : Bi mg) (TK : Fn P w K mg base "_law_take" (k + 1) f1 fd1 ["_law_draw_here", "_law_many"] spTake) (CS : Fn P w K mg base "_law_clauses" (k + 6) f2 fd2 ["_law_draw_here", "_law_variables_here", "_law_many"] spCls) :
    FnOk P w K mg base CX0 (k + 7) f fd ["_law_draw_here", "_law_most"] spForm := by
  refine F.ok scWForm (fun vs H Q E h => ?_) (fun cdv A outer s H vs Q E hr h => ?_)
  · obtain ⟨v, rfl, _⟩ := h
    rfl
  · obtain ⟨a, rfl, hD, q⟩ := h
    refine ⟨_, PSs.nox (pss_cons (ps_set (i := 2) scWForm.nd rfl (.inr rfl) (pe_op op_add pe_int (TK.pe (hr.mono (by omega)) (by rfl) (pa_cons (pv 0) (pa_cons pe_int pa_nil)))))
      (pss_cons (ps_set (i := 3) scWForm.nd rfl (.inl rfl) (pe_op op_add pe_int (TK.pe (hr.mono (by omega)) (by rfl) (pa_cons (pv 0) (pa_cons (pv 1) pa_nil)))))
      (pss_cons (ps_set (i := 4) scWForm.nd rfl (.inl rfl) (pe_ix ix_seq (pe_lst (pa_cons pe_int (pa_cons pe_int (pa_cons pe_int (pa_cons pe_int (pa_cons pe_int pa_nil)))))) (TK.pe (hr.mono (by omega)) (by rfl) (pa_cons (pv 0) (pa_cons pe_int pa_nil))) (fun _ _ => rfl)))
      (pss_cons (ps_setLc (i := 6) (own := [("_law_k", 5)]) (g := gName 5) rfl scWForm.nd rfl (by rfl) (sw_true rfl rfl rfl (by decide +kernel)) (pi_range1 (by rfl) bi.range (pa_cons (pe_op op_add (pv 3) (pv 4)) pa_nil)) (blkOk_by (N := nForm) (sc := defScope wForm) (by decide +kernel))
          (fun _ _ _ _ _ => pg_name (i := 5) scWForm.nd rfl (Or.inl rfl)) (fun _ _ _ _ _ => pts_nil) (fun _ _ _ _ _ => pe_op op_add pe_int (pe_op op_mul (pv 2) (pv 5))))
      (pss_cons (ps_set (i := 7) scWForm.nd rfl (.inr rfl) (pe_lst pa_nil))
      (pss_cons (ps_for PassesOwn.never rfl (pi_range1 (by rfl) bi.range (pa_cons (pv 4) pa_nil)) (pg_name (i := 5) scWForm.nd rfl (.inl rfl))
        (pss_cons (ps_set (i := 8) scWForm.nd rfl (.inl rfl) (pe_ix ix_seq (pv 6) (TK.pe (hr.mono (by omega)) (by rfl) (pa_cons (pv 0) (pa_cons (pe_callB (r := rLenS K) call_len_seq (by rfl) bi.len (by decide +kernel) (pa_cons (pv 6) pa_nil)) pa_nil))) (fun _ _ => rfl)))
        (pss_one (ps_if (PW.pt (pw_and (pt_cmpR op_notIn_seq (pv 8) (pv 7) (by rfl)) (pw_and1 (pt_cmpR op_lt (pe_op op_add (pe_callB (r := rLenS K) call_len_seq (by rfl) bi.len (by decide +kernel) (pa_cons (pv 7) pa_nil)) pe_int) (pe_callB (r := rLenS K) call_len_seq (by rfl) bi.len (by decide +kernel) (pa_cons (pv 6) pa_nil)) (nomark _)))))
          (pss_one (ps_expr (pe_bm PySem.F.plainAttrs_list PySem.F.slot_list_append PySem.F.type_list_append mt_append (pv 7) (pa_cons (pv 8) pa_nil)))) pss_nil))))
      (pss_cons (ps_set (i := 9) scWForm.nd rfl (.inl rfl) (pe_callTy call_tuple_of (by rfl) bi.tuple (by decide +kernel) (pa_cons (pe_lc (own := [("_law_v", 8)]) (g := gName 8) rfl scWForm.nd (pi_list (pv 6)) (blkOk_by (N := nForm) (sc := defScope wForm) (by decide +kernel))
          (fun _ _ _ _ _ => pg_name (i := 8) scWForm.nd rfl (Or.inl rfl)) (fun _ _ _ _ _ => pts_one (pt_cmpR (r := rIn K true) op_notIn_seq (pv 8) (pv 7) (by rfl))) (fun _ _ _ _ _ => pv 8)) pa_nil)))
      (pss_one (ps_ret (pe_tup (pa_cons (pv 9) (pa_cons (pe_callTy call_tuple_of (by rfl) bi.tuple (by decide +kernel) (pa_cons (pe_callB cr_sorted (by rfl) bi.sorted (by decide +kernel) (pa_cons (pv 7) pa_nil)) pa_nil)) (pa_cons (CS.pe hr (by rfl) (pa_cons (pv 0) (pa_cons (pv 6) (pa_cons (pe_op op_add (pe_op op_add (pv 3) (pv 4)) pe_int) pa_nil)))) pa_nil))))))))))))), ?_⟩
    -- gap
    refine r_asgS (a := a) (er_addT (er_takeC (i := 0) hD rfl (by decide) (by decide))) fun z H1 e1 hz => ?_
    obtain ⟨g, rfl, g0, g1⟩ := hz
    have hD1 := e1.dr hD
    refine r_asgS (a := a) (er_addT (er_take (i := 0) (n := 6) hD1 rfl (er_of fun H2 e2 => ep_of (ev_var (i := 1) rfl) fun _ _ => rfl) (by decide) (by decide))) fun z H2 e2 hz => ?_
    obtain ⟨c, rfl, c0, c1⟩ := hz
    have hD2 := e2.dr hD1
    refine r_asgS (a := a) (P := fun _ z => ∃ m, z = .int m ∧ (0 ≤ m ∧ m ≤ 3)) (er_op (P1 := SeqI a [0, 0, 1, 2, 3]) (P2 := fun _ z => ∃ r, z = .int r ∧ (0 ≤ r ∧ r < 5)) (er_disp hD2 [0, 0, 1, 2, 3] (by decide)) SeqI.mr (fun w H3 e3 _ => er_takeC (i := 0) (e3.dr hD2) rfl (by decide) (by decide)) fun w w' H3 e3 h1 h2 => rv_at h1 h2 rfl (by decide)) fun z H3 e3 hz => ?_
    obtain ⟨m, rfl, m0, m1⟩ := hz
    have hD3 := e3.dr hD2
    have e03 := (e1.trans e2).trans e3
    refine r_asgS (a := a) (er_lcR (σ := [some (.ref a), some (.int 6), some (.int g), some (.int c), some (.int m), none, none, none, none, none]) (vs := [5]) (j := 5) (lo := 1) (n := 9) (p := fun x => 1 ≤ x ∧ x ≤ 1000) hD3 (er_a1' (p := fun r => r = c + m) (er_of fun H4 e4 => ep_of (ev_op (ev_var (i := 3) rfl) (ev_var (i := 4) rfl) rv_I0) fun _ _ => ⟨_, rfl, rfl⟩) fun r h => ⟨by omega, by omega⟩) (by decide) (by decide) (fun _ => rfl) fun i H4 e4 hi => er_of fun H5 e5 => ep_of (ev_op ev_c (ev_op (ev_var (i := 2) rfl) (ev_var (i := 5) (v := .int (i : Int)) rfl) (rv_I (.inl ⟨by omega, by omega⟩))) rv_I0) fun _ _ => ⟨_, rfl, ?_⟩) fun z H4 e4 hz => ?_
    · have hg : g = 1 ∨ g = 2 ∨ g = 3 := by omega
      rcases hg with rfl | rfl | rfl <;> omega
    · obtain ⟨vp, ns, rfl, hva, hv4, l0, l1, hns⟩ := hz
      have hne : ns ≠ [] := fun z => by
        rw [z] at l0
        exact absurd l0 (by decide)
      have hD4 := e4.dr hD3
      have e04 := e03.trans e4
      refine q_asgL (el_lst ea_nil (by decide)) fun h H5 nh e5 hh => ?_
      have hha : h ≠ a := fun z => not_at hD4 (by rw [← z]; exact nh)
      have e45 : Rl a H4 H5 := Rl.of e5
      refine r_forR (a := a) (n := 3) (er_a1' (p := fun r => r = m) (er_of fun H6 e6 => ep_of (ev_var (i := 4) rfl) fun _ _ => ⟨m, rfl, rfl⟩) fun r h => ⟨by omega, by omega⟩) (by decide) (fun i σ' H' => ∃ y5 y8, σ' = [some (.ref a), some (.int 6), some (.int g), some (.int c), some (.int m), y5, some (.ref vp), some (.ref h), y8, none] ∧ Hw a ns H4 h i H')
        (fun H6 e6 => ⟨none, none, rfl, e45.trans e6, [], e6.exm h _ hha hh, Nat.le_refl _, fun x hx => by cases hx⟩) (fun i σ' H' hi p => ?_) fun i σ' H' hi p => ?_
      · obtain ⟨y5, y8, rfl, eH, hs, hhs, hsl, hsn⟩ := p
        have hDH := eH.dr hD4
        have hvH : SeqI a ns H' (.ref vp) := SeqI.mr H4 H' _ eH ⟨vp, rfl, .inl ⟨hva, hv4⟩⟩
        refine r_asgS (a := a) (P := fun _ z => ∃ x, z = .int x ∧ x ∈ ns) (er_op (P1 := SeqI a ns) (P2 := fun _ z => ∃ r, z = .int r ∧ (0 ≤ r ∧ r < (ns.length : Int))) (er_of fun H6 e6 => ep_of (ev_var (i := 6) rfl) fun H7 e7 => SeqI.mr H' H7 _ (e6.trans (Rl.of e7)) hvH) SeqI.mr (fun w H6 e6 h1 => er_take (i := 0) (e6.dr hDH) rfl (er_of fun H7 e7 => ep_of (ev_lenI (ev_var (i := 6) rfl) (SeqI.mr H' H7 _ (e6.trans e7) hvH)) fun _ _ => rfl) (by omega) (by omega)) fun w w' H6 e6 h1 h2 => rv_at h1 h2 rfl fun x hx => hx) fun z H6 e6 hz => ?_
        obtain ⟨x, rfl, hx⟩ := hz
        have hh6 := e6.exm h _ hha hhs
        have hv6 := SeqI.mr H' H6 _ e6 hvH
        have e46 := eH.trans e6
        refine s_when (b := !decide (x ∈ hs) && decide ((hs.length : Int) + 1 < (ns.length : Int))) (et_and (et_test (ev_op (ev_var (i := 8) (v := .int x) rfl) (ev_var (i := 7) (v := .ref h) rfl) (rv_niIL hh6))) fun _ => ?_) (fun hb H7 e7 => ?_) fun hb H7 e7 => ⟨_, _, rfl, e46.trans (Rl.of e7), hs, e7 h _ hh6, Nat.le_succ_of_le hsl, hsn⟩
        · refine et_test (ev_op (ev_op (ev_is (ev_len (ev_var (i := 7) (v := .ref h) rfl) (sq_of hh6)) (w := .int (hs.length : Int)) (by rw [List.length_map])) ev_c rv_I0) (ev_lenI (ev_var (i := 6) rfl) hv6) rv_I0)
        · refine s_app (K := K) (e7 h _ hh6) (ev_var (i := 7) rfl) (ev_var (i := 8) (v := .int x) rfl) (by rw [List.length_map]; omega) fun H8 e8 => ⟨_, _, rfl, ((e46.trans (Rl.of e7)).trans (Rl.of e8)).mut nh, hs ++ [x], by rw [upd_same, List.map_append]; rfl, by rw [List.length_append]; exact Nat.succ_le_succ hsl, fun y hy => ?_⟩
          rcases List.mem_append.mp hy with hy | hy
          · exact hsn y hy
          · obtain rfl : y = x := by simpa using hy
            exact hx
      · obtain ⟨y5, y8, rfl, eH, hs, hhs, hsl, hsn⟩ := p
        have hDH := eH.dr hD4
        have hvp := eH.exm vp _ hva hv4
        refine p_asgS (P := fun H v => TkL H v (ns.filter fun x => !decide (x ∈ hs))) (ep_imp (ep_tuple (Pb := fun n _ y => y = V.int n) stb_int ?_) fun w H1 _ h => h.ints) fun sv H6 e6 hsv => ?_
        · rw [← fm_filt]
          refine ep_lcL (K := K) (σ := [some (.ref a), some (.int 6), some (.int g), some (.int c), some (.int m), y5, some (.ref vp), some (.ref h), y8, none]) (vs := [8]) (j := 8) (P0 := fun y n => y = V.int n) (xs := ns.map V.int) (as := ns) (fun x => if (!decide (x ∈ hs)) = true then some x else none) stb_int (ep_of (ev_var (i := 6) (v := .ref vp) rfl) fun H6 e6 => ⟨vp, rfl, sq_of (e6 vp _ hvp)⟩) (ints_paired ns) (by rw [List.length_map]; omega) (fun x => rfl) (fun y n H6 e6 hy _ => ?_) fun y n m H6 e6 hy _ hf => ?_
          · subst hy
            rw [is_som]
            exact et_test (ev_op (ev_var (i := 8) (v := .int n) rfl) (ev_var (i := 7) (v := .ref h) rfl) (rv_niIL (e6 h _ hhs)))
          · subst hy
            obtain ⟨_, rfl⟩ := of_som hf
            exact ep_of (ev_var (i := 8) rfl) fun _ _ => rfl
        · have hD6 := hDH.ex e6
          have hh6 := e6 h _ hhs
          have hv6 : SeqI a ns H6 (.ref vp) := ⟨vp, rfl, .inl ⟨hva, e6 vp _ hvp⟩⟩
          refine r_ret (a := a) (P := fun H t => ∃ R, FormP (ns.filter fun x => !decide (x ∈ hs)) (srtI hs) R H t ∧ R.length ≤ 15 ∧ ∀ c ∈ R, GoodC ns c) (er_tup (er_a3 (P1 := fun H v => TkL H v (ns.filter fun x => !decide (x ∈ hs))) (P2 := fun H v => TkL H v (srtI hs)) (P3 := fun H z => ∃ R, TkR H z R ∧ R.length ≤ 15 ∧ ∀ c ∈ R, GoodC ns c) (er_of fun H7 e7 => ep_of (ev_var (i := 9) (v := sv) rfl) fun H8 e8 => hsv.mono (e7.ext.trans (ExT.of e8))) mrL (fun w H7 e7 _ => er_of fun H8 e8 => ?_) mrL fun w w' H7 e7 _ _ => ?_) (fun vs H7 hv => by
              obtain ⟨w, w', w'', rfl, _⟩ := hv
              exact (by decide : 3 ≤ 100000)) fun vs H7 p e7 hv np => ?_) fun t H7 e7 ht => ?_
          · refine ep_imp (ep_tuple (Pb := fun n _ y => y = V.int n) (bs := srtI hs) stb_int (ep_cb (ep_a1 (ep_of (P := fun H z => z = .ref h ∧ H h = some (.lst (hs.map V.int))) (ev_var (i := 7) rfl) fun H9 e9 => ⟨rfl, e9 h _ ((e7.trans e8).exm h _ hha hh6)⟩)) fun vs H9 e9 hv => ?_)) fun w H1 _ h => h.ints
            obtain ⟨z, rfl, rfl, hz⟩ := hv
            refine fun Q k => ⟨h, hs, rfl, sq_of hz, by omega, fun ns' p pm pw np => k _ _ (Ex.new np) ⟨p, _, rfl, upd_same, ?_⟩⟩
            rw [srtI_of pm pw]
            exact ints_paired _
          · refine er_call (er_a3 (P1 := fun _ z => z = .ref a) (P2 := SeqI a ns) (P3 := fun _ z => z = .int (c + m + 4)) (er_of fun H8 e8 => ep_of (ev_var (i := 0) rfl) fun _ _ => rfl) mr_eq (fun w H8 e8 _ => er_of fun H9 e9 => ep_of (ev_var (i := 6) rfl) fun H10 e10 => SeqI.mr H6 H10 _ (((e7.trans e8).trans e9).trans (Rl.of e10)) hv6) SeqI.mr fun w w' H8 e8 _ _ => er_of fun H9 e9 => ep_of (ev_op (ev_op (ev_var (i := 3) rfl) (ev_var (i := 4) rfl) rv_I0) ev_c rv_I0) fun _ _ => rfl) fun vs H8 e8 hv => ?_
            obtain ⟨z, z', z'', rfl, rfl, h2, rfl⟩ := hv
            exact sp_cls ((e7.trans e8).dr hD6) h2 hne (by omega) (by omega) (by omega)
          · obtain ⟨s, h', r', rfl, h1, h2, R, h3, h4, h5⟩ := hv
            exact ⟨R, ⟨p, s, h', r', rfl, upd_same, h1.mono (ExT.new np), h2.mono (ExT.new np), h3.mono (ExT.new np)⟩, h4, h5⟩
          · obtain ⟨R, hF, h4, h5⟩ := ht
            refine q t H7 _ _ R (((e04.trans eH).trans (Rl.of e6)).trans e7) hF ⟨?_, ?_, ?_, fun x hx => ?_, fun x hx => ?_, ⟨h4, fun c hc => (h5 c hc).2.1⟩, fun c hc => (h5 c hc).1, fun c hc l hl => ?_⟩
            · exact Nat.le_trans (List.length_filter_le _ ns) (by omega)
            · rw [(srtI_perm hs).length_eq]
              omega
            · intro z
              obtain ⟨z1, z2⟩ := List.append_eq_nil_iff.mp z
              have hs0 : hs = [] := by
                have := (srtI_perm hs).length_eq
                rw [z2] at this
                exact List.length_eq_zero_iff.mp this.symm
              subst hs0
              exact hne (List.eq_nil_iff_forall_not_mem.mpr (by simpa using z1))
            · have := hns x (List.mem_filter.mp hx).1
              exact ⟨by omega, this.2⟩
            · have := hns x (hsn x (mem_srtI.mp hx))
              exact ⟨by omega, this.2⟩
            · obtain ⟨x, hx, h⟩ := (h5 c hc).2.2 l hl
              have := hns x hx
              unfold Bd
              omega
end
end Cw

set_option Elab.async false
set_option linter.all false
set_option maxRecDepth 100000
set_option maxHeartbeats 2000000
/-! What repr shows of the formula; equal data. -/
namespace Cw
open PySem PySem.Spec PyProof.Rows L2 Evl

/-- short, showable, layable -/
structure Shw (d : PyData) (B : Nat) : Prop where
  sh : d.showable = true
  lv : d.leavesShort 13 = true
  ly : d.canLay0 = true
  bk : d.bulk ≤ B
theorem shw_int {i : Int} (h : Bd i) : Shw (.int i) 0 := by
  have hi : i.natAbs < 1001 := by unfold Bd at h; omega
  refine ⟨?_, ?_, by simp [PyData.canLay0], by simp [PyData.bulk]⟩
  · simp only [PyData.showable, decide_eq_true_eq]
    by_cases h0 : i.natAbs = 0
    · rw [h0]
      decide
    · exact Nat.lt_of_lt_of_le ((Nat.log2_lt h0).mpr (Nat.lt_of_lt_of_le hi (by decide : 1001 ≤ 2 ^ 10))) (by decide)
  · simp only [PyData.leavesShort, decide_eq_true_eq]
    exact PyData.shown_int_le (Nat.lt_of_lt_of_le hi (by decide))
theorem shw_all {α : Type} {f : α → PyData} {B : Nat} : ∀ {xs : List α}, (∀ a ∈ xs, Shw (f a) B) → PyData.showableAll (xs.map f) = true ∧ PyData.leavesShortAll 13 (xs.map f) = true ∧ PyData.canLayAll0 (xs.map f) = true ∧ PyData.bulkAll (xs.map f) ≤ xs.length * (B + 1)
  | [], _ => by simp [PyData.showableAll, PyData.leavesShortAll, PyData.canLayAll0, PyData.bulkAll]
  | x :: xs, h => by
    obtain ⟨h1, h2, h3, h4⟩ := h x List.mem_cons_self
    obtain ⟨g1, g2, g3, g4⟩ := shw_all (f := f) (B := B) (xs := xs) fun a ha => h a (List.mem_cons_of_mem _ ha)
    simp only [List.map_cons, PyData.showableAll, PyData.leavesShortAll, PyData.canLayAll0, PyData.bulkAll, h1, h2, h3, g1, g2, g3, Bool.and_self, true_and, List.length_cons]
    rw [Nat.add_mul]
    omega
theorem shw_T {α : Type} {f : α → PyData} {B : Nat} {xs : List α} (h : ∀ a ∈ xs, Shw (f a) B) : Shw (.tuple (xs.map f)) (xs.length * (B + 1)) := by
  obtain ⟨g1, g2, g3, g4⟩ := shw_all h
  exact ⟨by simpa only [PyData.showable] using g1, by simpa only [PyData.leavesShort] using g2, by simpa only [PyData.canLay0] using g3, by simpa only [PyData.bulk] using g4⟩
theorem shw_L {α : Type} {f : α → PyData} {B : Nat} {xs : List α} (h : ∀ a ∈ xs, Shw (f a) B) : Shw (.list (xs.map f)) (xs.length * (B + 1)) := by
  obtain ⟨g1, g2, g3, g4⟩ := shw_all h
  exact ⟨by simpa only [PyData.showable] using g1, by simpa only [PyData.leavesShort] using g2, by simpa only [PyData.canLay0] using g3, by simpa only [PyData.bulk] using g4⟩
theorem Shw.up {d : PyData} {B C : Nat} (h : Shw d B) (e : B ≤ C) : Shw d C := ⟨h.sh, h.lv, h.ly, Nat.le_trans h.bk e⟩
def dForm (sh hi : List Int) (R : List (List Int)) (ls : List Int) : PyData := .tuple [.tuple [dI sh, dI hi, dR R], .list (ls.map .int)]
theorem shw_I {ns : List Int} (h : ∀ x ∈ ns, Bd x) (hl : ns.length ≤ 20) : Shw (dI ns) 20 := (shw_T fun a ha => shw_int (h a ha)).up (by omega)
theorem shw_R {R : List (List Int)} (hs : Sm R) (h : ∀ c ∈ R, ∀ l ∈ c, Bd l) : Shw (dR R) 400 := (shw_T (f := dI) (B := 20) fun c hc => shw_I (h c hc) (Nat.le_trans (hs.2 c hc) (by decide))).up (by have := hs.1; omega)
theorem shw_form {sh hi : List Int} {R : List (List Int)} {ls : List Int} (F : FormM sh hi R) (hl : ls.length ≤ 20) (hb : ∀ l ∈ ls, Bd l) : Shw (dForm sh hi R ls) 5000 := by
  have h1 := shw_I F.bs F.ls
  have h2 := shw_I F.bh F.lh
  have h3 := shw_R F.sm F.br
  have h4 : Shw (.list (ls.map .int)) 400 := (shw_L fun a ha => shw_int (hb a ha)).up (by omega)
  have h5 : Shw (.tuple [dI sh, dI hi, dR R]) 1300 := (shw_T (f := id) (B := 400) (xs := [dI sh, dI hi, dR R]) fun a ha => by
    rcases List.mem_cons.mp ha with rfl | ha
    · exact h1.up (by decide)
    · rcases List.mem_cons.mp ha with rfl | ha
      · exact h2.up (by decide)
      · obtain rfl : a = dR R := by simpa using ha
        exact h3).up (show 3 * 401 ≤ 1300 by decide)
  exact (shw_T (f := id) (B := 1300) (xs := [.tuple [dI sh, dI hi, dR R], .list (ls.map .int)]) fun a ha => by
    rcases List.mem_cons.mp ha with rfl | ha
    · exact h5
    · obtain rfl : a = .list (ls.map .int) := by simpa using ha
      exact h4.up (by decide)).up (show 2 * 1301 ≤ 5000 by decide)
theorem Shw.fits {d : PyData} (h : Shw d 5000) : d.shown.length ≤ sizeLine := PyData.shown_fits_bulk (B := 13) (by decide) (by decide) h.lv (Nat.le_trans h.bk (by decide))
theorem Shw.nod {d : PyData} {B : Nat} (h : Shw d B) : d.hasDict = false := PyData.hasDict_of_canLay d h.ly
theorem form_deep (sh hi : List Int) (R : List (List Int)) (ls : List Int) : (dForm sh hi R ls).depth ≤ 8 := by
  have h1 := depth_I sh
  have h2 := depth_I hi
  have h3 := depth_R R
  have h4 : (PyData.list (ls.map .int)).depth ≤ 1 := depth_L (f := PyData.int) (n := 0) (fun a => by simp [PyData.depth]) ls
  unfold dForm
  simp only [PyData.depth, PyData.depthAll] at h4 ⊢
  omega
/-! equal to itself -/
mutual
theorem eqv_me : ∀ d : PyData, d.canLay0 = true → PyData.eqv d d = true
  | .none, _ => by simp [PyData.eqv]
  | .bool b, _ => by simp [PyData.eqv]
  | .int i, _ => by simp [PyData.eqv]
  | .str x, _ => by simp [PyData.eqv]
  | .list xs, h => by
    simp only [PyData.eqv]
    exact eqvAll_me xs (by simpa only [PyData.canLay0] using h)
  | .tuple xs, h => by
    simp only [PyData.eqv]
    exact eqvAll_me xs (by simpa only [PyData.canLay0] using h)
  | .dict _, h => by simp [PyData.canLay0] at h
theorem eqvAll_me : ∀ ds : List PyData, PyData.canLayAll0 ds = true → PyData.eqvAll ds ds = true
  | [], _ => by simp [PyData.eqvAll]
  | d :: ds, h => by
    have h' : d.canLay0 = true ∧ PyData.canLayAll0 ds = true := by simpa only [PyData.canLayAll0, Bool.and_eq_true] using h
    rw [PySem.W.eqv_all_cons, eqv_me d h'.1, eqvAll_me ds h'.2]
    rfl
end
theorem lay_Prop (R : List (List Int)) (ls : List Int) : (dProp R ls).canLay0 = true := by
  unfold dProp
  simp only [PyData.canLay0, PyData.canLayAll0, Bool.and_true]
  rw [lay_R]
  exact lay_all (fun a => by simp [PyData.canLay0]) _
theorem depth_Prop (R : List (List Int)) (ls : List Int) : (dProp R ls).depth ≤ 8 := by
  have h3 := depth_R (propF (ls.foldl givenM R) []).1
  have h4 : (PyData.list ((propF (ls.foldl givenM R) []).2.map .int)).depth ≤ 1 := depth_L (f := PyData.int) (n := 0) (fun a => by simp [PyData.depth]) _
  unfold dProp
  simp only [PyData.depth, PyData.depthAll] at h4 ⊢
  omega
end Cw

set_option Elab.async false
set_option linter.all false
set_option maxRecDepth 100000
set_option maxHeartbeats 4000000
/-! The law's def. -/
namespace Cw
open PySem PySem.Spec PyProof.Rows L2 Evl

abbrev wLaw : Stmt := top 33
abbrev nLaw : List Str := ["_law_script", "_law_draw_here", "_law_formula_here", "_law_residue_here", "_law_variables_here", "_law_literals", "_law_before", "_law_k", "_law_v"]
theorem scLaw : FnScope nLaw ["_law_script"] (defScope wLaw) := ⟨rfl, rfl, rfl, by decide +kernel, rfl, by decide +kernel, by decide +kernel⟩
/-- all that the law calls -/
structure Fns (P : Program) (w : World) (K : PySem.W.Frag) (mg : Str → Option Value) (base : Heap) : Prop where
  bi : Bi mg
  dw : ∃ f fd, Fn P w K mg base "_law_draw" 1 f fd ["_law_script"] (spDraw K)
  fo : ∃ f fd, Fn P w K mg base "_law_formula" 7 f fd ["_law_draw_here", "_law_most"] spForm
  tk : ∃ f fd, Fn P w K mg base "_law_take" 1 f fd ["_law_draw_here", "_law_many"] spTake
  lt : ∃ f fd, Fn P w K mg base "_law_literal" 2 f fd ["_law_draw_here", "_law_variables_here"] spLit
  us : ∃ f fd, Fn P w K mg base "units" 4 f fd ["residue"] spUn
  wu : ∃ f fd, Fn P w K mg base "_law_units" 4 f fd ["_law_residue_here"] spUn
  pr : ∃ f fd, Fn P w K mg base "propagate" 7 f fd ["residue", "literals"] (spProp K)
  wp : ∃ f fd, Fn P w K mg base "_law_propagated" 7 f fd ["_law_residue_here", "_law_literals"] (spProp K)
  le : ∃ f fd, Fn P w K mg base "lessened" 2 f fd ["residue"] spLess
  wl : ∃ f fd, Fn P w K mg base "_law_lessened" 1 f fd ["_law_residue_here"] spLess
  sh : ∃ f fd, Fn P w K mg base "shown_of" 2 f fd ["formula", "residue"] spShown
  wv : ∃ f fd, Fn P w K mg base "_law_variables" 1 f fd ["_law_residue_here"] spVarL
  pa : ∃ f fd, Fn P w K mg base "parts_of" 6 f fd ["residue"] spParts
  wa : ∃ f fd, Fn P w K mg base "_law_parts" 6 f fd ["_law_residue_here"] spParts
section
variable {P : Program} {w : World} {K : PySem.W.Frag} {mg : Str → Option Value} {base : Heap} {σ : L2.St} {H : Hp} {ta tb te : TE}
theorem et_neSame {d : PyData} (ha : EvP ta σ H (fun H v => Dp K H v d)) (hb : ∀ H1, Ex H H1 → EvP tb σ H1 (fun H v => Dp K H v d)) (hy : d.canLay0 = true) (hd : d.depth ≤ 64) : EvT (tTest (tOp (rNeD K) ta tb)) σ H false :=
  et_op ha (mo_D K d) (fun w H1 e _ => hb H1 e) fun w w' H1 e h1 h2 Q q => ⟨d, d, h1, h2, shaped_of hy hd, shaped_of hy hd, by rw [eqv_me d hy]; exact q _ H1 (Ex.refl H1) rfl⟩
theorem sp_prop {R : List (List Int)} {v : V} {p : Addr} {ls : List Int} (h : TkR H v R) (hs : Sm R) (hp : H p = some (.lst (ls.map V.int))) : SpP (spProp K) [v, .ref p] H (fun H v => Dp K H v (dProp R ls)) := fun H1 e Q q E => ⟨v, p, R, ls, rfl, h.mono (ExT.of e), hs, e p _ hp, q⟩
theorem sp_less {R : List (List Int)} {v : V} (h : TkR H v R) (hs : Sm R) (hn : ∀ c ∈ R, c.Nodup) : SpP spLess [v] H (fun H v => TkR H v (lessM R)) := fun H1 e Q q E => ⟨v, R, rfl, h.mono (ExT.of e), hs, hn, q⟩
theorem sp_parts {R : List (List Int)} {v : V} (h : TkR H v R) (hs : Sm R) (hn : ¬ [] ∈ R) : SpP spParts [v] H (LsP (fun S H y => TkR H y S) (lawPartsM R)) := fun H1 e Q q E => ⟨v, R, rfl, h.mono (ExT.of e), hs, hn, q⟩
theorem parts_dp {v : V} {Ps : List (List (List Int))} (h : LsP (fun S H y => TkR H y S) Ps H v) : Dp K H v (.list (Ps.map dR)) := by
  obtain ⟨p, ys, rfl, hp, pr⟩ := h
  exact .lst (sq_of hp) (dp_all (fun y b h => h.dp) pr)
theorem FormP.mono {sh hi : List Int} {R : List (List Int)} {H H' : Hp} {t : V} (e : ExT H H') (h : FormP sh hi R H t) : FormP sh hi R H' t := by
  obtain ⟨p, s, h', r, rfl, hp, h1, h2, h3⟩ := h
  exact ⟨p, s, h', r, rfl, e p _ hp, h1.mono e, h2.mono e, h3.mono e⟩
theorem FormP.dp {sh hi : List Int} {R : List (List Int)} {t : V} (h : FormP sh hi R H t) : Dp K H t (.tuple [dI sh, dI hi, dR R]) := by
  obtain ⟨p, s, h', r, rfl, hp, h1, h2, h3⟩ := h
  exact .tup (st_of hp) (.cons h1.dp (.cons h2.dp (.cons h3.dp .nil)))
/-- repr((formula, literals)) -/
theorem ep_repr {i j : Nat} {t : V} {q : Addr} {sh hi : List Int} {R : List (List Int)} {ls : List Int} (hi1 : σ[i]? = some (some t)) (hj : σ[j]? = some (some (.ref q))) (hF : FormP sh hi R H t) (hq : H q = some (.lst (ls.map V.int))) (M : FormM sh hi R) (hl : ls.length ≤ 20) (hb : ∀ l ∈ ls, Bd l) :
    EvP (tCB (rRepr K) (tCons (tTup (tCons (tVar i) (tCons (tVar j) tNil))) tNil)) σ H (fun _ z => z = .str (dForm sh hi R ls).shown) :=
  ep_cb (ep_a1 (P1 := fun H z => ∃ p, z = .ref p ∧ Dp K H (.ref p) (dForm sh hi R ls)) (ep_tup (PA := fun H vs => vs = [t, .ref q] ∧ FormP sh hi R H t ∧ H q = some (.lst (ls.map V.int))) (fun H1 e Q k => ea_cons (ev_var hi1) (ea_cons (ev_var hj) ea_nil) H1 e Q fun H2 e2 => k _ H2 e2 ⟨rfl, hF.mono (ExT.of (e.trans e2)), (e.trans e2) q _ hq⟩) (fun vs _ hv => by rw [hv.1]; exact (by decide : 2 ≤ 100000)) fun vs H1 p e hv np => by
      obtain ⟨rfl, h1, h2⟩ := hv
      exact ⟨p, rfl, .tup (st_of upd_same) (.cons ((h1.mono (ExT.new np)).dp) (.cons (.lst (sq_of (Ex.new np q _ h2)) (dp_ints ls)) .nil))⟩)) fun vs H1 e hv Q k => by
    obtain ⟨z, rfl, p, rfl, hd⟩ := hv
    have S := shw_form M hl hb
    exact ⟨p, _, rfl, hd, S.sh, S.nod, S.fits, form_deep _ _ _ _, k _ H1 (Ex.refl H1) rfl⟩
/-- tuple + tuple -/
theorem rv_cat {a : Addr} {x y : V} {ns ms : List Int} (h1 : TkL H x ns) (h2 : TkL H y ms) (l1 : ns.length ≤ 1000) (l2 : ms.length ≤ 1000) : RvP (rCatA K) x y H (SeqI a (ns ++ ms)) := fun Q k => by
  obtain ⟨p, rfl, hp⟩ := h1
  obtain ⟨q, rfl, hq⟩ := h2
  refine ⟨p, q, _, _, rfl, rfl, st_of hp, st_of hq, sz_of (by rw [List.length_map, List.length_map]; omega), fun e => ?_, fun e1 e2 => ?_, fun e1 e2 z nz => ?_⟩
  · have e' : ns = [] := List.map_eq_nil_iff.mp e
    subst e'
    exact k _ H (Ex.refl H) ⟨q, rfl, .inr hq⟩
  · have e' : ms = [] := List.map_eq_nil_iff.mp e2
    subst e'
    rw [List.append_nil] at k
    exact k _ H (Ex.refl H) ⟨p, rfl, .inr hp⟩
  · exact k _ _ (Ex.new nz) ⟨z, rfl, .inr (by rw [upd_same, List.map_append])⟩
theorem law_body {f : Addr} {cdv : Value} {A : Around} {outer : List Env} {s : Shared} {Q : VK} {E : XK} {l : Addr} {ns : List Int} (G : Fns P w K mg base) (hr : Room 8 (A.deeper (envOfC "law" (defScope wLaw) s.heap.objs.size f cdv))) (hg : A.guards = some []) (hS : SqL K H l (ns.map V.int)) (hl : ns.length ≤ 63) (q : ∀ H', Q (.bl true) H') :
    ∃ t, PSs (cxOf CX0 P w K mg base nLaw "law" (defScope wLaw) f cdv A outer s H E) (defBody wLaw) t ∧ t { nx := fun _ H' => Q .non H', rt := Q } (L2.start nLaw [.ref l]) H := by
  obtain ⟨f1, fd1, DW⟩ := G.dw
  obtain ⟨f2, fd2, FO⟩ := G.fo
  obtain ⟨f3, fd3, TK⟩ := G.tk
  obtain ⟨f4, fd4, LT⟩ := G.lt
  obtain ⟨f5, fd5, US⟩ := G.us
  obtain ⟨f6, fd6, WU⟩ := G.wu
  obtain ⟨f7, fd7, PR⟩ := G.pr
  obtain ⟨f8, fd8, WP⟩ := G.wp
  obtain ⟨f9, fd9, LE⟩ := G.le
  obtain ⟨f10, fd10, WL⟩ := G.wl
  obtain ⟨f11, fd11, SH⟩ := G.sh
  obtain ⟨f12, fd12, WV⟩ := G.wv
  obtain ⟨f13, fd13, PA⟩ := G.pa
  obtain ⟨f14, fd14, WA⟩ := G.wa
  have bi := G.bi
  have hr1 := hr.mono (show 1 ≤ 8 by decide)
  have hr2 := hr.mono (show 2 ≤ 8 by decide)
  have hr4 := hr.mono (show 4 ≤ 8 by decide)
  have hr6 := hr.mono (show 6 ≤ 8 by decide)
  have hr7 := hr.mono (show 7 ≤ 8 by decide)
  have hg' : (A.deeper (envOfC "law" (defScope wLaw) s.heap.objs.size f cdv)).guards = some [] := hg
  refine ⟨_, PSs.nox (pss_cons (ps_set (i := 1) scLaw.nd rfl (.inr rfl) (DW.pe hr1 (by rfl) (pa_cons (pv 0) pa_nil)))
    (pss_cons (ps_set (i := 2) scLaw.nd rfl (.inr rfl) (FO.pe hr7 (by rfl) (pa_cons (pv 1) (pa_cons pe_int pa_nil))))
    (pss_cons (ps_set (i := 3) scLaw.nd rfl (.inl rfl) (pe_ix ix_tup (pv 2) pe_int (fun _ _ => rfl)))
    (pss_cons (ps_set (i := 4) scLaw.nd rfl (.inr rfl) (pe_op op_catA (pe_ix ix_tup (pv 2) pe_int (fun _ _ => rfl)) (pe_ix ix_tup (pv 2) pe_int (fun _ _ => rfl))))
    (pss_cons (ps_setLc (i := 5) (own := [("_law_k", 7)]) (g := gName 7) rfl scLaw.nd rfl (by rfl) (sw_true rfl rfl rfl (by decide +kernel)) (pi_range1 (by rfl) bi.range (pa_cons (TK.pe hr1 (by rfl) (pa_cons (pv 1) (pa_cons pe_int pa_nil))) pa_nil)) (blkOk_by (N := nLaw) (sc := defScope wLaw) (by decide +kernel))
        (fun _ _ _ _ _ => pg_name (i := 7) scLaw.nd rfl (Or.inl rfl)) (fun _ _ _ _ _ => pts_nil) (fun _ _ _ _ _ => LT.pe hr2 (by rfl) (pa_cons (pv 1) (pa_cons (pv 4) pa_nil))))
    (pss_cons (ps_set (i := 6) scLaw.nd rfl (.inl rfl) (pe_callB (cr_repr hr hg') (by rfl) bi.repr (by decide +kernel) (pa_cons (pe_tup (pa_cons (pv 2) (pa_cons (pv 5) pa_nil))) pa_nil)))
    (pss_cons (ps_if (PW.pt (pw_or (pt_cmpR (op_neD hr.units) (US.pe hr4 (by rfl) (pa_cons (pv 3) pa_nil)) (WU.pe hr4 (by rfl) (pa_cons (pv 3) pa_nil)) (nomark _))
        (pw_or1 (pt_cmpR (op_neD hr.units) (PR.pe hr7 (by rfl) (pa_cons (pv 3) (pa_cons (pe_callTy call_list_of (by rfl) bi.list (by decide +kernel) (pa_cons (pv 5) pa_nil)) pa_nil))) (WP.pe hr7 (by rfl) (pa_cons (pv 3) (pa_cons (pv 5) pa_nil))) (nomark _)))))
      (pss_one (ps_ret pe_bl)) pss_nil)
    (pss_cons (ps_if (PW.pt (pw_or (pt_cmpR (op_neD hr.units) (PR.pe hr7 (by rfl) (pa_cons (pv 3) (pa_cons (pe_lst pa_nil) pa_nil))) (WP.pe hr7 (by rfl) (pa_cons (pv 3) (pa_cons (pe_lst pa_nil) pa_nil))) (nomark _))
        (pw_or1 (pt_cmpR (op_neD hr.units) (LE.pe hr2 (by rfl) (pa_cons (pv 3) pa_nil)) (WL.pe hr1 (by rfl) (pa_cons (pv 3) pa_nil)) (nomark _)))))
      (pss_one (ps_ret pe_bl)) pss_nil)
    (pss_cons (ps_if (pt_cmpR (op_neD hr.units) (SH.pe hr2 (by rfl) (pa_cons (pv 2) (pa_cons (pv 3) pa_nil))) (pe_callTy call_tuple_of (by rfl) bi.tuple (by decide +kernel) (pa_cons
        (pe_lc (own := [("_law_v", 8)]) (g := gName 8) rfl scLaw.nd (pi_tup (WV.pe hr1 (by rfl) (pa_cons (pv 3) pa_nil))) (blkOk_by (N := nLaw) (sc := defScope wLaw) (by decide +kernel))
          (fun _ _ _ _ _ => pg_name (i := 8) scLaw.nd rfl (Or.inl rfl)) (fun _ _ _ _ _ => pts_one (pt_cmpR (r := rIn K false) op_in_seq (pv 8) (pe_ix (r := rIxT K) ix_tup (pv 2) pe_int (fun _ _ => rfl)) (by rfl))) (fun _ _ _ _ _ => pv 8)) pa_nil)) (nomark _))
      (pss_one (ps_ret pe_bl)) pss_nil)
    (pss_cons (ps_if (PW.pt (pw_and (pt_cmpR (op_notInT (ru65 hr)) (pe_tup pa_nil) (pv 3) (by rfl)) (pw_and1 (pt_cmpR (op_neD hr.units) (PA.pe hr6 (by rfl) (pa_cons (pv 3) pa_nil)) (WA.pe hr6 (by rfl) (pa_cons (pv 3) pa_nil)) (nomark _)))))
      (pss_one (ps_ret pe_bl)) pss_nil)
    (pss_one (ps_ret (pe_cmpR op_eq (pe_callB (cr_repr hr hg') (by rfl) bi.repr (by decide +kernel) (pa_cons (pe_tup (pa_cons (pv 2) (pa_cons (pv 5) pa_nil))) pa_nil)) (pv 6) (nomark _)))))))))))))), ?_⟩
  refine p_asgS (P := fun H1 v => ∃ a, v = .ref a ∧ Dr a H1) (ep_call (ep_a1 (ep_of (P := fun H z => z = .ref l ∧ SqL K H l (ns.map V.int)) (ev_var (i := 0) rfl) fun H1 e1 => ⟨rfl, ex_l e1 hS⟩)) fun vs H1 e1 hv => ?_) fun v H1 e1 hv => ?_
  · obtain ⟨z, rfl, rfl, hz⟩ := hv
    exact fun H2 e2 Q k E => ⟨l, ns, rfl, ex_l e2 hz, hl, fun a H3 e3 _ hD => k _ H3 e3 ⟨a, rfl, hD⟩⟩
  obtain ⟨a, rfl, hD1⟩ := hv
  refine r_asgS (a := a) (P := fun H t => ∃ sh hi R, FormP sh hi R H t ∧ FormM sh hi R) (er_call (er_a2 (P1 := fun _ z => z = .ref a) (P2 := fun _ z => z = .int 6) (er_of fun H2 e2 => ep_of (ev_var (i := 1) rfl) fun _ _ => rfl) mr_eq fun w H2 e2 _ => er_c) fun vs H2 e2 hv => ?_) fun t H2 e2 ht => ?_
  · obtain ⟨z, z', rfl, rfl, rfl⟩ := hv
    exact fun H3 e3 Q k E => ⟨a, rfl, e3.dr (e2.dr hD1), fun t H4 sh hi R e4 h1 h2 => k t H4 e4 ⟨sh, hi, R, h1, h2⟩⟩
  obtain ⟨sh, hi, R, hF, M⟩ := ht
  have hD2 := e2.dr hD1
  have hF' := hF
  obtain ⟨p, s0, h0, r, rfl, hp, h1, h2, h3⟩ := hF'
  refine q_asg (v := r) (ev_op (ev_var (i := 2) (v := .ref p) rfl) ev_c (rv_ixT (st_of hp) (atI_nat (j := 2) rfl))) fun H3 e3 => ?_
  refine p_asgS (P := SeqI a (sh ++ hi)) (ep_op (P1 := fun _ z => z = s0) (P2 := fun _ z => z = h0) (ep_of (ev_op (ev_var (i := 2) (v := .ref p) rfl) ev_c (rv_ixT (st_of (e3 p _ hp)) (atI_nat (j := 0) rfl))) fun _ _ => rfl) (fun _ _ _ _ h => h) (fun w H4 e4 _ => ep_of (ev_op (ev_var (i := 2) (v := .ref p) rfl) ev_c (rv_ixT (st_of ((e3.trans e4) p _ hp)) (atI_nat (j := 1) rfl))) fun _ _ => rfl) fun w w' H4 e4 g1 g2 => by
    subst g1 g2
    exact rv_cat (h1.mono (ExT.of (e3.trans e4))) (h2.mono (ExT.of (e3.trans e4))) (Nat.le_trans M.ls (by decide)) (Nat.le_trans M.lh (by decide))) fun vv H4 e4 hvv => ?_
  have e24 := e3.trans e4
  have hD4 := hD2.ex e24
  refine r_asgS (a := a) (er_lcR (σ := [some (.ref l), some (.ref a), some (.ref p), some r, some vv, none, none, none, none]) (vs := [7]) (j := 7) (lo := 0) (n := 3) (p := Bd) hD4 (er_a1' (er_takeC (i := 1) hD4 rfl (by decide) (by decide)) fun r h => ⟨h.1, by omega⟩) (by decide) (by decide) (fun _ => rfl) fun j H5 e5 _ => er_imp (P1 := fun _ z => ∃ l, z = .int l ∧ ∃ x ∈ sh ++ hi, l = x ∨ l = -x) (er_call (er_a2 (P1 := fun _ z => z = .ref a) (P2 := fun _ z => z = vv) (er_of fun H6 e6 => ep_of (ev_var (i := 1) rfl) fun _ _ => rfl) mr_eq fun w H6 e6 _ => er_of fun H7 e7 => ep_of (ev_var (i := 4) rfl) fun _ _ => rfl) fun vs H6 e6 hv6 => ?_) fun w H6 e6 hw => ?_) fun lv H5 e5 hlv => ?_
  · obtain ⟨z, z', rfl, rfl, rfl⟩ := hv6
    exact sp_lit ((e5.trans e6).dr hD4) (SeqI.mr _ _ _ (e5.trans e6) hvv) M.ne (by
      have g1 := M.ls
      have g2 := M.lh
      rw [List.length_append]
      omega)
  · obtain ⟨x, rfl, y, hy, hxy⟩ := hw
    refine ⟨x, rfl, ?_⟩
    have hb : Bd y := by
      rcases List.mem_append.mp hy with h | h
      · exact M.bs y h
      · exact M.bh y h
    unfold Bd at hb ⊢
    omega
  obtain ⟨qa, ls, rfl, _, hq, _, hll, hlb⟩ := hlv
  have hls : ls.length ≤ 20 := by omega
  have hF5 : FormP sh hi R H5 (.ref p) := hF.mono ((ExT.of e24).trans e5.ext)
  have hR5 : TkR H5 r R := h3.mono ((ExT.of e24).trans e5.ext)
  have hsm := M.sm
  refine p_asgS (ep_repr (i := 2) (j := 5) rfl rfl hF5 hq M hls hlb) fun z H6 e6 hz => ?_
  subst hz
  have epr : ∀ H7, Ex H6 H7 → EvP (tVar 3) [some (.ref l), some (.ref a), some (.ref p), some r, some vv, some (.ref qa), some (.str (dForm sh hi R ls).shown), none, none] H7 (fun H v => TkR H v R) := fun H7 e7 => ep_of (ev_var (i := 3) (v := r) rfl) fun H8 e8 => hR5.mono (ExT.of ((e6.trans e7).trans e8))
  have epq : ∀ H7, Ex H6 H7 → EvP (tVar 5) [some (.ref l), some (.ref a), some (.ref p), some r, some vv, some (.ref qa), some (.str (dForm sh hi R ls).shown), none, none] H7 (fun H v => v = .ref qa ∧ H qa = some (.lst (ls.map V.int))) := fun H7 e7 => ep_of (ev_var (i := 5) (v := .ref qa) rfl) fun H8 e8 => ⟨rfl, ((e6.trans e7).trans e8) qa _ hq⟩
  have ep1 : ∀ (sp : Sp) (Pp : Hp → V → Prop), (∀ v H, TkR H v R → SpP sp [v] H Pp) → ∀ H7, Ex H6 H7 → EvP (tCall sp [] E0 (tCons (tVar 3) tNil)) [some (.ref l), some (.ref a), some (.ref p), some r, some vv, some (.ref qa), some (.str (dForm sh hi R ls).shown), none, none] H7 Pp := fun sp Pp hsp H7 e7 => ep_call (ep_a1 (epr H7 e7)) fun vs H8 e8 hv => by
    obtain ⟨z, rfl, hz⟩ := hv
    exact hsp z H8 hz
  have epp : ∀ (te : TE) (ms : List Int), (∀ H7, Ex H6 H7 → EvP te [some (.ref l), some (.ref a), some (.ref p), some r, some vv, some (.ref qa), some (.str (dForm sh hi R ls).shown), none, none] H7 (fun H v => ∃ b, v = .ref b ∧ H b = some (.lst (ms.map V.int)))) → ∀ H7, Ex H6 H7 → EvP (tCall (spProp K) [] E0 (tCons (tVar 3) (tCons te tNil))) [some (.ref l), some (.ref a), some (.ref p), some r, some vv, some (.ref qa), some (.str (dForm sh hi R ls).shown), none, none] H7 (fun H v => Dp K H v (dProp R ms)) := fun te ms hte H7 e7 => ep_call (ep_a2 (epr H7 e7) (stb_R _).mo fun w H8 e8 _ => hte H8 (e7.trans e8)) fun vs H8 e8 hv => by
    obtain ⟨z, z', rfl, hz, b, rfl, hb⟩ := hv
    exact sp_prop hz hsm hb
  have epl : ∀ H7, Ex H6 H7 → EvP (tLst tNil) [some (.ref l), some (.ref a), some (.ref p), some r, some vv, some (.ref qa), some (.str (dForm sh hi R ls).shown), none, none] H7 (fun H v => ∃ b, v = .ref b ∧ H b = some (.lst (([] : List Int).map V.int))) := fun H7 e7 => ep_lst (PA := fun _ vs => vs = []) (fun H1 e Q q => q [] H1 (Ex.refl H1) rfl) (fun vs H1 hv => by rw [hv]; exact Nat.zero_le _) fun vs H1 p e hv np => ⟨p, rfl, by rw [upd_same, hv]; rfl⟩
  have dpI : ∀ (te : TE) (c : List Int), (∀ H7, Ex H6 H7 → EvP te [some (.ref l), some (.ref a), some (.ref p), some r, some vv, some (.ref qa), some (.str (dForm sh hi R ls).shown), none, none] H7 (fun H v => TkL H v c)) → ∀ H7, Ex H6 H7 → EvP te [some (.ref l), some (.ref a), some (.ref p), some r, some vv, some (.ref qa), some (.str (dForm sh hi R ls).shown), none, none] H7 (fun H v => Dp K H v (dI c)) := fun te c h H7 e7 => ep_imp (h H7 e7) fun w H8 _ hw => hw.dp
  have un1 := ep1 spUn _ (fun v H h => sp_un h hsm)
  have le1 := ep1 spLess _ (fun v H h => sp_less h hsm M.nd)
  refine q_when (b := false || false) (et_or (et_neSame (dpI _ _ un1 H6 (Ex.refl H6)) (fun H7 e7 => dpI _ _ un1 H7 e7) (lay_I _) (Nat.le_trans (depth_I _) (by decide))) fun _ => et_neSame (epp _ ls (fun H7 e7 => ep_cb (ep_a1 (epq H7 e7)) fun vs H8 e8 hv => ?_) H6 (Ex.refl H6)) (fun H7 e7 => epp _ ls (fun H8 e8 => ep_imp (epq H8 e8) fun w H9 _ hw => ⟨qa, hw.1, hw.2⟩) H7 e7) (lay_Prop R ls) (Nat.le_trans (depth_Prop R ls) (by decide))) (fun hb => by cases hb) fun _ H7 e7 => ?_
  · obtain ⟨z, rfl, rfl, hz⟩ := hv
    exact fun Q k => ⟨qa, _, rfl, .inl (sq_of hz), fun b nb => k _ _ (Ex.new nb) ⟨b, rfl, upd_same⟩⟩
  refine q_when (b := false || false) (et_or (et_neSame (epp _ [] epl H7 e7) (fun H8 e8 => epp _ [] epl H8 (e7.trans e8)) (lay_Prop R []) (Nat.le_trans (depth_Prop R []) (by decide))) fun _ => et_neSame (d := dR (lessM R)) (ep_imp (le1 H7 e7) fun w H8 _ hw => hw.dp) (fun H8 e8 => ep_imp (le1 H8 (e7.trans e8)) fun w H9 _ hw => hw.dp) (lay_R _) (Nat.le_trans (depth_R _) (by decide))) (fun hb => by cases hb) fun _ H8 e8 => ?_
  have e78 := e7.trans e8
  refine q_when (b := false) (et_neSame (d := dI ((varsM R).filter fun n => decide (n ∈ sh))) (ep_imp (ep_call (P := fun H v => TkL H v ((varsM R).filter fun n => decide (n ∈ sh))) (ep_a2 (P1 := fun H z => z = .ref p ∧ FormP sh hi R H (.ref p)) (ep_of (ev_var (i := 2) rfl) fun H9 e9 => ⟨rfl, hF5.mono (ExT.of ((e6.trans e78).trans e9))⟩) (fun H H' v e h => ⟨h.1, h.2.mono (ExT.of e)⟩) fun w H9 e9 _ => epr H9 (e78.trans e9)) fun vs H9 e9 hv => ?_) fun w H9 _ hw => hw.dp) (fun H9 e9 => ?_) (lay_I _) (Nat.le_trans (depth_I _) (by decide))) (fun hb => by cases hb) fun _ H9 e9 => ?_
  · obtain ⟨z, z', rfl, ⟨rfl, hz⟩, hz'⟩ := hv
    obtain ⟨p', s', h', r', ep, hp', g1, g2, g3⟩ := hz
    cases ep
    exact fun H10 e10 Q k E => ⟨p, z', s', [h', r'], sh, R, rfl, e10 p _ hp', g1.mono (ExT.of e10), hz'.mono (ExT.of e10), hsm, k⟩
  · refine ep_imp (ep_tuple (Pb := fun n _ y => y = V.int n) (bs := (varsM R).filter fun n => decide (n ∈ sh)) stb_int ?_) fun w H10 _ h => h.ints.dp
    rw [← fm_filt]
    have hF9 := hF5.mono (ExT.of ((e6.trans e78).trans e9))
    obtain ⟨p', s', h', r', ep, hp', g1, g2, g3⟩ := hF9
    cases ep
    obtain ⟨b, rfl, hb⟩ := g1
    refine ep_lcT (σ := [some (.ref l), some (.ref a), some (.ref p), some r, some vv, some (.ref qa), some (.str (dForm sh hi R ls).shown), none, none]) (vs := [8]) (j := 8) (P0 := fun y n => y = V.int n) (xs := (varsM R).map V.int) (as := varsM R) (fun n => if decide (n ∈ sh) = true then some n else none) stb_int (ep_imp (ep1 spVarL _ (fun v H h => sp_varL (.inl h) hsm) H9 (e78.trans e9)) fun w H10 _ h => by
        obtain ⟨a, rfl, ha⟩ := h
        exact ⟨a, rfl, st_of ha⟩) (ints_paired _) (by rw [List.length_map]; exact Nat.le_trans (len_vars hsm) (by decide)) (fun x => rfl) (fun y n H10 e10 hy _ => ?_) fun y n m H10 e10 hy _ hf => ?_
    · subst hy
      rw [is_som]
      exact et_test (ev_op (ev_var (i := 8) (v := .int n) rfl) (ev_op (ev_var (i := 2) (v := .ref p) rfl) ev_c (rv_ixT (st_of (e10 p _ hp')) atI_head)) (rv_inI (e10 b _ hb)))
    · subst hy
      obtain ⟨_, rfl⟩ := of_som hf
      exact ep_of (ev_var (i := 8) rfl) fun _ _ => rfl
  have e79 := e78.trans e9
  refine q_when (b := !decide ([] ∈ R) && false) (et_and (et_op (P1 := fun H v => TkL H v []) (P2 := fun H v => TkR H v R) ep_nil (stb_L _).mo (fun w H10 e10 _ => epr H10 (e79.trans e10)) fun w w' H10 e10 g1 g2 => rv_niR g1 g2) fun hb => ?_) (fun hb => by rw [Bool.and_false] at hb; cases hb) fun _ H10 e10 => ?_
  · have hn : ¬ [] ∈ R := fun z => by
      rw [decide_eq_true z] at hb
      cases hb
    have pa1 := ep1 spParts _ (fun v H h => sp_parts h hsm hn)
    exact et_neSame (d := .list ((lawPartsM R).map dR)) (ep_imp (pa1 H9 e79) fun w H10 _ hw => parts_dp hw) (fun H10 e10 => ep_imp (pa1 H10 (e79.trans e10)) fun w H11 _ hw => parts_dp hw) (lay_L lay_R _) (Nat.le_trans (depth_L depth_R _) (by decide))
  have e610 := e6.trans (e79.trans e10)
  refine p_ret (P := fun _ z => z = .bl true) (ep_of (ev_op (ev_of (ep_repr (i := 2) (j := 5) rfl rfl (hF5.mono (ExT.of e610)) (e610 qa _ hq) M hls hlb)) (ev_var (i := 6) (v := .str (dForm sh hi R ls).shown) rfl) (rv_eq rfl)) fun _ _ => by rw [decide_eq_true rfl]) fun z H11 e11 hz => by
    rw [hz]
    exact q H11
end
end Cw

set_option Elab.async false
set_option linter.all false
set_option maxRecDepth 100000
set_option maxHeartbeats 2000000
/-! The law called by the claim: its def entered at the caller's own place, so that no repr is under way. -/
namespace Cw
open PySem PySem.Spec PyProof.Rows L2 Evl

abbrev scr (vs : List Value) : Obj := { cls := .type "list", data := .seq vs.toArray }
section
variable {P : Program} {w : World} {K : PySem.W.Frag} {mg mb : Str → Option Value} {fa a : Addr} {fd : FuncData} {s1 : Shared} {vs : List Value} {ns : List Int}
/-- the script, if tracked, is frozen -/
def Frz (a : Addr) (vs : List Value) (ns : List Int) (H : Hp) : Prop := ∀ b u, H b = some u → b = a ∧ u = .frz (scr vs) (.lst (ns.map V.int))
/-- the entry: the body run from the caller's place -/
theorem enter {H : Hp} {base : Heap} {Q : VK} {E : XK} (F : FunD K "law" "law" (defArgs wLaw) (defBody wLaw) (defScope wLaw) [] [] fa fd) (e0 : Env0 P w K mg base callerA [] s1 H) (G : Fns P w K mg base) (hbind : ∀ (s : Shared) (u : Value), BindsTo s fd ⟨[u], []⟩ [("_law_script", u)])
    (hS : SqL K H a (ns.map V.int)) (hl : ns.length ≤ 63) (q : ∀ H', Q (.bl true) H') : codeAny (model P w) callerA (.call (.ref fa) ⟨[.ref a], []⟩) (CR CX0 [] P w H s1 Q E) s1 := by
  obtain ⟨oc, od, dV, kV, doc, pm, an, cdv, ct, osl, rfl, lk, hcd, _, _⟩ := F.ex
  have KX : K.In s1.heap := e0.mod.kin.keeps fun b o e => (e0.bs b o e).1
  have lim : s1.heap.NoLimit := e0.mod.nolimit.keeps fun b o e => (e0.bs b o e).1
  have hr : Room 9 callerA := ⟨rfl, by decide, by decide⟩
  have S := scLaw
  refine codeAny_call_function hr.depth (KX _ _ lk) rfl S.co S.gen rfl (PySem.W.codeRec_of KX hcd) (hbind s1 (.ref a) _ _ _ _ ?_)
  refine wpAny_newFunctionEnv_cells S.kind (fun y hy => ?_) fun env he s2 x => ?_
  · obtain rfl : y = (("_law_script" : Str), Value.ref a) := by simpa using hy
    exact .inl rfl
  subst he
  refine ⟨lim.keeps x.toInCall.keep, codeAny_func ?_⟩
  obtain ⟨t, ht, hq⟩ := law_body (P := P) (f := fa) (cdv := cdv) (A := callerA) (outer := []) (s := s1) (Q := Q) (E := E) G (hr.deeper _) rfl hS hl q
  have I : Inv (cxOf CX0 P w K mg base nLaw "law" (defScope wLaw) fa cdv callerA [] s1 H E) [] (L2.start nLaw [.ref a]) H s2 := inv_start (ps := ["_law_script"]) (us := [.ref a]) S hr.hd e0 rfl (.cons rfl .nil) x
  refine wpAny_mono (ht.run [] s2 _ H _ I hq) (fun fl s' hs => ?_) fun e s' hs => hs
  have out : ∀ {σ' : L2.St} {H' : Hp} {v : V} {u : Value}, Inv (cxOf CX0 P w K mg base nLaw "law" (defScope wLaw) fa cdv callerA [] s1 H E) [] σ' H' s' → RelV v u → Q v H' → CE [] P w H s1 Q u s' := fun J rv q => ⟨_, _, J.os, J.bare, J.base, J.hok, rv, q⟩
  cases fl with
  | ret u =>
    obtain ⟨v, σ', H', J, rv, q⟩ := hs
    exact out J rv q
  | next =>
    obtain ⟨σ', H', J, q⟩ := hs
    exact out (v := V.non) (u := Value.none) J rfl q
  | brk => exact (show False from hs.elim fun _ h => h.elim fun _ h => h.2).elim
  | cont => exact (show False from hs.elim fun _ h => h.elim fun _ h => h.2).elim
end
end Cw

set_option Elab.async false
set_option linter.all false
set_option maxRecDepth 100000
set_option maxHeartbeats 2000000
/-! The law called by the claim: what stands around. -/
namespace Cw
open PySem PySem.Spec PyProof.Rows L2 Evl

section
variable {P : Program} {w : World} {K : PySem.W.Frag} {mg mb : Str → Option Value} {fa a : Addr} {fd : FuncData} {s1 : Shared} {vs : List Value} {ns : List Int}
theorem law_over {H : Hp} (F : FunD K "law" "law" (defArgs wLaw) (defBody wLaw) (defScope wLaw) [] [] fa fd) (hbind : ∀ (s : Shared) (u : Value), BindsTo s fd ⟨[u], []⟩ [("_law_script", u)])
    (KX : K.In s1.heap) (hns : s1.heap.Ns mainGlobals mg) (hb : s1.heap.Ns builtinsNs mb) (hbb : ∀ x : Str, x ≠ "__name__" → mb x = bootBuiltins x) (hlim : s1.heap.NoLimit) (hg : s1.gens = #[])
    (ha : s1.heap.get? a = some (scr vs)) (hi : IntsAre vs ns) (hl : ns.length ≤ 63) (G : ∀ base : Heap, K.In base → base.Ns mainGlobals mg → Fns P w K mg base)
    (hH : Frz a vs ns H) (hS : SqL K H a (ns.map V.int)) (hK : H a ≠ none → K.lookup a = none) :
    codeAny (model P w) callerA (.call (.ref fa) ⟨[.ref a], []⟩) (fun r s' => r = .ok (.ret (.bool true)) ∧ OldK s1.heap s'.heap ∧ s'.os = s1.os ∧ AllBare s'.gens) s1 := by
  have only : ∀ {b : Addr}, b ≠ a → H b = none := fun {b} n => by
    cases q : H b with
    | none => rfl
    | some u => exact absurd (hH b u q).1 n
  have rv : Vals (ns.map V.int) vs := vals_ints hi
  have hok : HOk P w H s1.heap := fun b u z => by
    obtain ⟨rfl, rfl⟩ := hH b u z
    exact ⟨ha, by rw [List.length_map]; exact sz_of (by omega), vs, _, rv, ha⟩
  -- what is not the script stands in the base
  have ns_in : ∀ {b : Addr} {m : Str → Option Value}, s1.heap.Ns b m → (hidT s1.heap H).Ns b m := fun {b m} ⟨o, es, ep, e, d, r⟩ => by
    have nb : b ≠ a := fun z => by
      rw [z, ha] at e
      cases e
      have d' : Data.seq vs.toArray 0 = Data.dict es ep := d
      cases d'
    exact ⟨o, es, ep, hidT_get e (only nb), d, r⟩
  have hKb : K.In (hidT s1.heap H) := fun b o e => hidT_get (KX b o e) (by
    cases q : H b with
    | none => rfl
    | some u =>
      have nb := (hH b u q).1
      subst nb
      rw [hK (by rw [q]; exact fun z => by cases z)] at e
      cases e)
  have hM : Mod K mg (hidT s1.heap H) := ⟨hKb, ns_in hns, ⟨mb, ns_in hb, hbb⟩, let ⟨mc, h1, h2⟩ := hlim; ⟨mc, ns_in h1, h2⟩⟩
  have e0 : Env0 P w K mg (hidT s1.heap H) callerA [] s1 H := ⟨rfl, hM, fun b o e => of_hidT e, Nat.le_of_eq (hidT_size _ _), trivial, fun b hb => absurd (show b ∈ ([] : List Addr) from hb) (by simp), hok, .of_eq hg⟩
  refine codeAny_mono (enter (Q := fun v _ => v = .bl true) (E := fun _ _ _ => False) F e0 (G _ hKb (ns_in hns)) hbind hS hl fun _ => rfl) fun r s' h => ?_
  cases r with
  | error e => exact False.elim h
  | ok fl =>
    cases fl with
    | next => exact False.elim h
    | brk => exact False.elim h
    | cont => exact False.elim h
    | ret u =>
      obtain ⟨v, H', os, bare, un, hok', r', q⟩ := h
      obtain rfl : v = V.bl true := q
      obtain rfl : u = Value.bool true := r'
      refine ⟨rfl, OldK.of_keep fun b o e => ?_, os, bare⟩
      cases q : H b with
      | none => exact un.keep b o e q (fun z => absurd (show b ∈ ([] : List Addr) from z) (by simp)) (by simp)
      | some u =>
        obtain ⟨rfl, rfl⟩ := hH b u q
        obtain ⟨e2, _⟩ := hok' b _ (un.frzs b _ _ q)
        rw [ha] at e
        cases e
        exact e2
theorem law_at (F : FunD K "law" "law" (defArgs wLaw) (defBody wLaw) (defScope wLaw) [] [] fa fd) (hbind : ∀ (s : Shared) (u : Value), BindsTo s fd ⟨[u], []⟩ [("_law_script", u)])
    (KX : K.In s1.heap) (hns : s1.heap.Ns mainGlobals mg) (hb : s1.heap.Ns builtinsNs mb) (hbb : ∀ x : Str, x ≠ "__name__" → mb x = bootBuiltins x) (hlim : s1.heap.NoLimit) (hg : s1.gens = #[])
    (ha : s1.heap.get? a = some (scr vs)) (hi : IntsAre vs ns) (hl : ns.length ≤ 63) (G : ∀ base : Heap, K.In base → base.Ns mainGlobals mg → Fns P w K mg base) :
    codeAny (model P w) callerA (.call (.ref fa) ⟨[.ref a], []⟩) (fun r s' => r = .ok (.ret (.bool true)) ∧ OldK s1.heap s'.heap ∧ s'.os = s1.os ∧ AllBare s'.gens) s1 := by
  cases hk : K.lookup a with
  | some o =>
    have e := KX a o hk
    rw [ha] at e
    cases e
    exact law_over (H := fun _ => none) F hbind KX hns hb hbb hlim hg ha hi hl G (fun b u z => by
      have z' : (none : Option HO) = some u := z
      cases z') (.inr ⟨_, vs.toArray, _, hk, rfl, rfl, rfl, by rw [List.size_toArray, hi.length]; exact sz_of (by omega), by simpa using vals_ints hi⟩) fun z => absurd rfl z
  | none =>
    exact law_over (H := fun b => if b = a then some (.frz (scr vs) (.lst (ns.map V.int))) else none) F hbind KX hns hb hbb hlim hg ha hi hl G (fun b u z => by
      by_cases hba : b = a
      · have z' := (if_pos hba).symm.trans z
        cases z'
        exact ⟨hba, rfl⟩
      · have z' := (if_neg hba).symm.trans z
        cases z') (.inl (.inr ⟨scr vs, if_pos rfl⟩)) fun _ => hk
end
end Cw

set_option Elab.async false
set_option linter.all false
set_option maxRecDepth 100000
set_option maxHeartbeats 0
/-! The head: what stands behind the module's top, and the law. -/
namespace Cw
open PySem PySem.Spec PyProof.Rows L2 Evl

def dDef (x : Str) (st : Stmt) : He.DefD := ⟨(x, none), x, x, defArgs st, defBody st, defScope st, [], []⟩
def fnAll : List He.DefD := [dDef "literal_key" (top 1), dDef "clause_key" (top 2), dDef "residue_of" (top 3), dDef "variables_of" (top 4), dDef "under" (top 5), dDef "units" (top 8), dDef "has_empty" (top 9), dDef "propagate" (top 10), dDef "joined_variables" (top 11), dDef "parts_of" (top 12), dDef "is_within" (top 13), dDef "lessened" (top 14), dDef "shown_of" (top 15), dDef "_law_draw" (top 17), dDef "_law_take" (top 18), dDef "_law_key" (top 19), dDef "_law_once" (top 20), dDef "_law_clause" (top 21), dDef "_law_clause_key" (top 22), dDef "_law_residue" (top 23), dDef "_law_given" (top 24), dDef "_law_variables" (top 25), dDef "_law_literal" (top 26), dDef "_law_clauses" (top 27), dDef "_law_formula" (top 28), dDef "_law_units" (top 29), dDef "_law_propagated" (top 30), dDef "_law_parts" (top 31), dDef "_law_lessened" (top 32), dDef "law" (top 33)]
def faAll : List He.Fa := [.glo "literal_key", .glo "clause_key", .glo "residue_of", .glo "variables_of", .glo "under", .glo "units", .glo "has_empty", .glo "propagate", .glo "joined_variables", .glo "parts_of", .glo "is_within", .glo "lessened", .glo "shown_of", .glo "_law_draw", .glo "_law_take", .glo "_law_key", .glo "_law_once", .glo "_law_clause", .glo "_law_clause_key", .glo "_law_residue", .glo "_law_given", .glo "_law_variables", .glo "_law_literal", .glo "_law_clauses", .glo "_law_formula", .glo "_law_units", .glo "_law_propagated", .glo "_law_parts", .glo "_law_lessened", .glo "law", .glo "EMPTY", .free "tuple", .free "list", .free "sorted", .free "abs", .free "len", .free "min", .free "any", .free "all", .free "range", .free "set", .free "int", .free "repr"]
/-- EMPTY's one item -/
def emA (K : PySem.W.Frag) : Addr := match K.lookup (He.ga K "EMPTY") with
  | some ⟨_, _, .seq its _, _⟩ => (match its.toList with
    | [.ref a] => a
    | _ => 0)
  | _ => 0
def emB (K : PySem.W.Frag) : Bool := He.tupB K "EMPTY" [.adr emA] && (match K.lookup (emA K) with
  | some ⟨.type c, _, .seq its _, _⟩ => decide (c = "tuple") && decide (its.size = 0)
  | _ => false)
theorem emB_ok {K : PySem.W.Frag} (h : emB K = true) (H : Hp) : Dp K H (.ref (He.ga K "EMPTY")) (dR [[]]) := by
  obtain ⟨h1, h2⟩ := He.ba h
  have t1 : SqT K H (He.ga K "EMPTY") [.ref (emA K)] := He.tupB_ok h1 H
  have t2 : SqT K H (emA K) [] := by
    cases q : K.lookup (emA K) with
    | none =>
      rw [q] at h2
      cases h2
    | some o =>
      obtain ⟨oc, od, dt, osl⟩ := o
      rw [q] at h2
      cases oc with
      | type c =>
        cases dt with
        | seq its n =>
          obtain ⟨h3, h4⟩ := He.ba (show (decide (c = "tuple") && decide (its.size = 0)) = true from h2)
          have e0 := of_decide_eq_true h4
          refine .inr ⟨_, its, n, q, congrArg Value.type (of_decide_eq_true h3), rfl, by rw [e0]; exact Nat.zero_le _, ?_⟩
          rw [Array.size_eq_zero_iff.mp e0]
          exact .nil
        | _ => cases h2
      | _ => cases dt <;> cases h2
  exact .tup t1 (.cons (.tup t2 .nil) .nil)
abbrev Rr : PySem.W.OpenRow := PySem.W.OpenLaw.row PySem.Challenge.rw_countsworn_k30_units_and_parts
/-- the look behind the top: the defs, and EMPTY -/
def hkM : PySem.W.Hook where
  α := He.AlD × Bool
  obs := fun s => (He.obsDG 4 faAll fnAll s.heap.get?, emB (He.frG s.heap.get? (He.asD s.heap.get? 4)))
  val := fun _ => (He.valD fnAll, true)
  says := fun _ h => ∃ K : PySem.W.Frag, K.In h ∧ He.SaysD faAll fnAll K ∧ emB K = true
  of := fun _ _ e => ⟨_, He.frG_in, congrArg (fun z : He.AlD × Bool => z.1) e, congrArg (fun z : He.AlD × Bool => z.2) e⟩
  keeps := fun _ _ _ ⟨K, hK, c⟩ k => ⟨K, PySem.W.Frag.In.keeps hK k, c⟩
def obM (s : PySem.W.SharedT) : He.AlD × Bool := (He.obsDG 4 faAll fnAll (HandSHeadRun.getT s), emB (He.frG (HandSHeadRun.getT s) (He.asD (HandSHeadRun.getT s) 4)))
theorem obM_eq (s : PySem.W.SharedT) : obM s = hkM.obs s.abs := by
  have e : HandSHeadRun.getT s = s.abs.heap.get? := funext fun a => HandSHeadRun.getT_eq s a
  unfold obM
  rw [e]
  rfl
def looseM : List Str := ["literal_key", "clause_key", "residue_of", "variables_of", "under", "units", "has_empty", "propagate", "joined_variables", "parts_of", "is_within", "lessened", "shown_of", "_law_draw", "_law_take", "_law_key", "_law_once", "_law_clause", "_law_clause_key", "_law_residue", "_law_given", "_law_variables", "_law_literal", "_law_clauses", "_law_formula", "_law_units", "_law_propagated", "_law_parts", "_law_lessened", "EMPTY"]
theorem runM (w : World) : HandSHeadRun.RunEq Rr (PySem.W.view Rr.prog [33]) hkM obM 3000 looseM w := by
  intro os
  kernel_rfl
theorem facts {P : Program} {w : World} {K : PySem.W.Frag} {h : Heap} {mg : Str → Option Value} (X : K.In h) (G : h.Ns mainGlobals mg) (c : He.SaysD faAll fnAll K) (hem : emB K = true) (base : Heap) : Fns P w K mg base := by
  obtain ⟨fd_literal_key, F_literal_key⟩ := c.def_ 0 (d := dDef "literal_key" (top 1)) rfl
  have g_literal_key : mg "literal_key" = some (.ref (He.ga K "literal_key")) := He.glo_ok X G (c.fact 0 (f := .glo "literal_key") rfl)
  obtain ⟨fd_clause_key, F_clause_key⟩ := c.def_ 1 (d := dDef "clause_key" (top 2)) rfl
  have g_clause_key : mg "clause_key" = some (.ref (He.ga K "clause_key")) := He.glo_ok X G (c.fact 1 (f := .glo "clause_key") rfl)
  obtain ⟨fd_residue_of, F_residue_of⟩ := c.def_ 2 (d := dDef "residue_of" (top 3)) rfl
  have g_residue_of : mg "residue_of" = some (.ref (He.ga K "residue_of")) := He.glo_ok X G (c.fact 2 (f := .glo "residue_of") rfl)
  obtain ⟨fd_variables_of, F_variables_of⟩ := c.def_ 3 (d := dDef "variables_of" (top 4)) rfl
  have g_variables_of : mg "variables_of" = some (.ref (He.ga K "variables_of")) := He.glo_ok X G (c.fact 3 (f := .glo "variables_of") rfl)
  obtain ⟨fd_under, F_under⟩ := c.def_ 4 (d := dDef "under" (top 5)) rfl
  have g_under : mg "under" = some (.ref (He.ga K "under")) := He.glo_ok X G (c.fact 4 (f := .glo "under") rfl)
  obtain ⟨fd_units, F_units⟩ := c.def_ 5 (d := dDef "units" (top 8)) rfl
  have g_units : mg "units" = some (.ref (He.ga K "units")) := He.glo_ok X G (c.fact 5 (f := .glo "units") rfl)
  obtain ⟨fd_has_empty, F_has_empty⟩ := c.def_ 6 (d := dDef "has_empty" (top 9)) rfl
  have g_has_empty : mg "has_empty" = some (.ref (He.ga K "has_empty")) := He.glo_ok X G (c.fact 6 (f := .glo "has_empty") rfl)
  obtain ⟨fd_propagate, F_propagate⟩ := c.def_ 7 (d := dDef "propagate" (top 10)) rfl
  have g_propagate : mg "propagate" = some (.ref (He.ga K "propagate")) := He.glo_ok X G (c.fact 7 (f := .glo "propagate") rfl)
  obtain ⟨fd_joined_variables, F_joined_variables⟩ := c.def_ 8 (d := dDef "joined_variables" (top 11)) rfl
  have g_joined_variables : mg "joined_variables" = some (.ref (He.ga K "joined_variables")) := He.glo_ok X G (c.fact 8 (f := .glo "joined_variables") rfl)
  obtain ⟨fd_parts_of, F_parts_of⟩ := c.def_ 9 (d := dDef "parts_of" (top 12)) rfl
  have g_parts_of : mg "parts_of" = some (.ref (He.ga K "parts_of")) := He.glo_ok X G (c.fact 9 (f := .glo "parts_of") rfl)
  obtain ⟨fd_is_within, F_is_within⟩ := c.def_ 10 (d := dDef "is_within" (top 13)) rfl
  have g_is_within : mg "is_within" = some (.ref (He.ga K "is_within")) := He.glo_ok X G (c.fact 10 (f := .glo "is_within") rfl)
  obtain ⟨fd_lessened, F_lessened⟩ := c.def_ 11 (d := dDef "lessened" (top 14)) rfl
  have g_lessened : mg "lessened" = some (.ref (He.ga K "lessened")) := He.glo_ok X G (c.fact 11 (f := .glo "lessened") rfl)
  obtain ⟨fd_shown_of, F_shown_of⟩ := c.def_ 12 (d := dDef "shown_of" (top 15)) rfl
  have g_shown_of : mg "shown_of" = some (.ref (He.ga K "shown_of")) := He.glo_ok X G (c.fact 12 (f := .glo "shown_of") rfl)
  obtain ⟨fd__law_draw, F__law_draw⟩ := c.def_ 13 (d := dDef "_law_draw" (top 17)) rfl
  have g__law_draw : mg "_law_draw" = some (.ref (He.ga K "_law_draw")) := He.glo_ok X G (c.fact 13 (f := .glo "_law_draw") rfl)
  obtain ⟨fd__law_take, F__law_take⟩ := c.def_ 14 (d := dDef "_law_take" (top 18)) rfl
  have g__law_take : mg "_law_take" = some (.ref (He.ga K "_law_take")) := He.glo_ok X G (c.fact 14 (f := .glo "_law_take") rfl)
  obtain ⟨fd__law_key, F__law_key⟩ := c.def_ 15 (d := dDef "_law_key" (top 19)) rfl
  have g__law_key : mg "_law_key" = some (.ref (He.ga K "_law_key")) := He.glo_ok X G (c.fact 15 (f := .glo "_law_key") rfl)
  obtain ⟨fd__law_once, F__law_once⟩ := c.def_ 16 (d := dDef "_law_once" (top 20)) rfl
  have g__law_once : mg "_law_once" = some (.ref (He.ga K "_law_once")) := He.glo_ok X G (c.fact 16 (f := .glo "_law_once") rfl)
  obtain ⟨fd__law_clause, F__law_clause⟩ := c.def_ 17 (d := dDef "_law_clause" (top 21)) rfl
  have g__law_clause : mg "_law_clause" = some (.ref (He.ga K "_law_clause")) := He.glo_ok X G (c.fact 17 (f := .glo "_law_clause") rfl)
  obtain ⟨fd__law_clause_key, F__law_clause_key⟩ := c.def_ 18 (d := dDef "_law_clause_key" (top 22)) rfl
  have g__law_clause_key : mg "_law_clause_key" = some (.ref (He.ga K "_law_clause_key")) := He.glo_ok X G (c.fact 18 (f := .glo "_law_clause_key") rfl)
  obtain ⟨fd__law_residue, F__law_residue⟩ := c.def_ 19 (d := dDef "_law_residue" (top 23)) rfl
  have g__law_residue : mg "_law_residue" = some (.ref (He.ga K "_law_residue")) := He.glo_ok X G (c.fact 19 (f := .glo "_law_residue") rfl)
  obtain ⟨fd__law_given, F__law_given⟩ := c.def_ 20 (d := dDef "_law_given" (top 24)) rfl
  have g__law_given : mg "_law_given" = some (.ref (He.ga K "_law_given")) := He.glo_ok X G (c.fact 20 (f := .glo "_law_given") rfl)
  obtain ⟨fd__law_variables, F__law_variables⟩ := c.def_ 21 (d := dDef "_law_variables" (top 25)) rfl
  have g__law_variables : mg "_law_variables" = some (.ref (He.ga K "_law_variables")) := He.glo_ok X G (c.fact 21 (f := .glo "_law_variables") rfl)
  obtain ⟨fd__law_literal, F__law_literal⟩ := c.def_ 22 (d := dDef "_law_literal" (top 26)) rfl
  have g__law_literal : mg "_law_literal" = some (.ref (He.ga K "_law_literal")) := He.glo_ok X G (c.fact 22 (f := .glo "_law_literal") rfl)
  obtain ⟨fd__law_clauses, F__law_clauses⟩ := c.def_ 23 (d := dDef "_law_clauses" (top 27)) rfl
  have g__law_clauses : mg "_law_clauses" = some (.ref (He.ga K "_law_clauses")) := He.glo_ok X G (c.fact 23 (f := .glo "_law_clauses") rfl)
  obtain ⟨fd__law_formula, F__law_formula⟩ := c.def_ 24 (d := dDef "_law_formula" (top 28)) rfl
  have g__law_formula : mg "_law_formula" = some (.ref (He.ga K "_law_formula")) := He.glo_ok X G (c.fact 24 (f := .glo "_law_formula") rfl)
  obtain ⟨fd__law_units, F__law_units⟩ := c.def_ 25 (d := dDef "_law_units" (top 29)) rfl
  have g__law_units : mg "_law_units" = some (.ref (He.ga K "_law_units")) := He.glo_ok X G (c.fact 25 (f := .glo "_law_units") rfl)
  obtain ⟨fd__law_propagated, F__law_propagated⟩ := c.def_ 26 (d := dDef "_law_propagated" (top 30)) rfl
  have g__law_propagated : mg "_law_propagated" = some (.ref (He.ga K "_law_propagated")) := He.glo_ok X G (c.fact 26 (f := .glo "_law_propagated") rfl)
  obtain ⟨fd__law_parts, F__law_parts⟩ := c.def_ 27 (d := dDef "_law_parts" (top 31)) rfl
  have g__law_parts : mg "_law_parts" = some (.ref (He.ga K "_law_parts")) := He.glo_ok X G (c.fact 27 (f := .glo "_law_parts") rfl)
  obtain ⟨fd__law_lessened, F__law_lessened⟩ := c.def_ 28 (d := dDef "_law_lessened" (top 32)) rfl
  have g__law_lessened : mg "_law_lessened" = some (.ref (He.ga K "_law_lessened")) := He.glo_ok X G (c.fact 28 (f := .glo "_law_lessened") rfl)
  have bi : Bi mg := ⟨He.free_ok X G (c.fact 31 (f := .free "tuple") rfl), He.free_ok X G (c.fact 32 (f := .free "list") rfl), He.free_ok X G (c.fact 33 (f := .free "sorted") rfl), He.free_ok X G (c.fact 34 (f := .free "abs") rfl), He.free_ok X G (c.fact 35 (f := .free "len") rfl), He.free_ok X G (c.fact 36 (f := .free "min") rfl), He.free_ok X G (c.fact 37 (f := .free "any") rfl), He.free_ok X G (c.fact 38 (f := .free "all") rfl), He.free_ok X G (c.fact 39 (f := .free "range") rfl), He.free_ok X G (c.fact 40 (f := .free "set") rfl), He.free_ok X G (c.fact 41 (f := .free "int") rfl), He.free_ok X G (c.fact 42 (f := .free "repr") rfl)⟩
  have em : ∃ e, mg "EMPTY" = some (.ref e) ∧ ∀ H, Dp K H (.ref e) (dR [[]]) := ⟨He.ga K "EMPTY", He.glo_ok X G (c.fact 30 (f := .glo "EMPTY") rfl), emB_ok hem⟩
  have N_literal_key : Fn P w K mg base "literal_key" 1 (He.ga K "literal_key") fd_literal_key ["literal"] (spLK) := ⟨ok_litkey (k := 0) F_literal_key, F_literal_key.bindsN fun _ _ _ _ _ _ us hl => match us, hl with | [_], _ => rfl, g_literal_key, F_literal_key.kp⟩
  have N_clause_key : Fn P w K mg base "clause_key" 2 (He.ga K "clause_key") fd_clause_key ["clause"] (spCK) := ⟨ok_clkey (k := 0) F_clause_key bi N_literal_key, F_clause_key.bindsN fun _ _ _ _ _ _ us hl => match us, hl with | [_], _ => rfl, g_clause_key, F_clause_key.kp⟩
  have N_residue_of : Fn P w K mg base "residue_of" 5 (He.ga K "residue_of") fd_residue_of ["clauses"] (spRes) := ⟨ok_res (k := 0) F_residue_of bi N_clause_key, F_residue_of.bindsN fun _ _ _ _ _ _ us hl => match us, hl with | [_], _ => rfl, g_residue_of, F_residue_of.kp⟩
  have N_variables_of : Fn P w K mg base "variables_of" 1 (He.ga K "variables_of") fd_variables_of ["residue"] (spVar) := ⟨ok_vars (k := 0) F_variables_of bi, F_variables_of.bindsN fun _ _ _ _ _ _ us hl => match us, hl with | [_], _ => rfl, g_variables_of, F_variables_of.kp⟩
  have N_under : Fn P w K mg base "under" 6 (He.ga K "under") fd_under ["residue", "literal"] (spUnd) := ⟨ok_under (k := 0) F_under bi N_residue_of, F_under.bindsN fun _ _ _ _ _ _ us hl => match us, hl with | [_, _], _ => rfl, g_under, F_under.kp⟩
  have N_units : Fn P w K mg base "units" 4 (He.ga K "units") fd_units ["residue"] (spUn) := ⟨ok_units (k := 0) F_units bi N_literal_key, F_units.bindsN fun _ _ _ _ _ _ us hl => match us, hl with | [_], _ => rfl, g_units, F_units.kp⟩
  have N_has_empty : Fn P w K mg base "has_empty" 1 (He.ga K "has_empty") fd_has_empty ["residue"] (spHas) := ⟨ok_has (k := 0) F_has_empty, F_has_empty.bindsN fun _ _ _ _ _ _ us hl => match us, hl with | [_], _ => rfl, g_has_empty, F_has_empty.kp⟩
  have N_propagate : Fn P w K mg base "propagate" 7 (He.ga K "propagate") fd_propagate ["residue", "literals"] (spProp K) := ⟨ok_prop (k := 0) F_propagate N_under N_units N_has_empty em, F_propagate.bindsN fun _ _ _ _ _ _ us hl => match us, hl with | [_, _], _ => rfl, g_propagate, F_propagate.kp⟩
  have N_joined_variables : Fn P w K mg base "joined_variables" 2 (He.ga K "joined_variables") fd_joined_variables ["residue"] (spJoin) := ⟨ok_join (k := 0) F_joined_variables bi N_variables_of, F_joined_variables.bindsN fun _ _ _ _ _ _ us hl => match us, hl with | [_], _ => rfl, g_joined_variables, F_joined_variables.kp⟩
  have N_parts_of : Fn P w K mg base "parts_of" 6 (He.ga K "parts_of") fd_parts_of ["residue"] (spParts) := ⟨ok_parts (k := 0) F_parts_of bi N_joined_variables N_residue_of, F_parts_of.bindsN fun _ _ _ _ _ _ us hl => match us, hl with | [_], _ => rfl, g_parts_of, F_parts_of.kp⟩
  have N_is_within : Fn P w K mg base "is_within" 1 (He.ga K "is_within") fd_is_within ["first", "second"] (spWi) := ⟨ok_within (k := 0) F_is_within bi, F_is_within.bindsN fun _ _ _ _ _ _ us hl => match us, hl with | [_, _], _ => rfl, g_is_within, F_is_within.kp⟩
  have N_lessened : Fn P w K mg base "lessened" 2 (He.ga K "lessened") fd_lessened ["residue"] (spLess) := ⟨ok_less (k := 0) F_lessened bi N_is_within, F_lessened.bindsN fun _ _ _ _ _ _ us hl => match us, hl with | [_], _ => rfl, g_lessened, F_lessened.kp⟩
  have N_shown_of : Fn P w K mg base "shown_of" 2 (He.ga K "shown_of") fd_shown_of ["formula", "residue"] (spShown) := ⟨ok_shown (k := 0) F_shown_of bi N_variables_of, F_shown_of.bindsN fun _ _ _ _ _ _ us hl => match us, hl with | [_, _], _ => rfl, g_shown_of, F_shown_of.kp⟩
  have N__law_draw : Fn P w K mg base "_law_draw" 1 (He.ga K "_law_draw") fd__law_draw ["_law_script"] (spDraw K) := ⟨ok_wdraw (k := 0) F__law_draw bi, F__law_draw.bindsN fun _ _ _ _ _ _ us hl => match us, hl with | [_], _ => rfl, g__law_draw, F__law_draw.kp⟩
  have N__law_take : Fn P w K mg base "_law_take" 1 (He.ga K "_law_take") fd__law_take ["_law_draw_here", "_law_many"] (spTake) := ⟨ok_wtake (k := 0) F__law_take bi, F__law_take.bindsN fun _ _ _ _ _ _ us hl => match us, hl with | [_, _], _ => rfl, g__law_take, F__law_take.kp⟩
  have N__law_key : Fn P w K mg base "_law_key" 1 (He.ga K "_law_key") fd__law_key ["_law_literal_here"] (spLK) := ⟨ok_wkey (k := 0) F__law_key bi, F__law_key.bindsN fun _ _ _ _ _ _ us hl => match us, hl with | [_], _ => rfl, g__law_key, F__law_key.kp⟩
  have N__law_once : Fn P w K mg base "_law_once" 1 (He.ga K "_law_once") fd__law_once ["_law_row"] (spOnce K) := ⟨ok_wonce (k := 0) F__law_once, F__law_once.bindsN fun _ _ _ _ _ _ us hl => match us, hl with | [_], _ => rfl, g__law_once, F__law_once.kp⟩
  have N__law_clause : Fn P w K mg base "_law_clause" 4 (He.ga K "_law_clause") fd__law_clause ["_law_literals"] (spCl) := ⟨ok_wcl (k := 0) F__law_clause bi N__law_once N__law_key, F__law_clause.bindsN fun _ _ _ _ _ _ us hl => match us, hl with | [_], _ => rfl, g__law_clause, F__law_clause.kp⟩
  have N__law_clause_key : Fn P w K mg base "_law_clause_key" 2 (He.ga K "_law_clause_key") fd__law_clause_key ["_law_clause_here"] (spCK) := ⟨ok_wclkey (k := 0) F__law_clause_key bi N__law_key, F__law_clause_key.bindsN fun _ _ _ _ _ _ us hl => match us, hl with | [_], _ => rfl, g__law_clause_key, F__law_clause_key.kp⟩
  have N__law_residue : Fn P w K mg base "_law_residue" 5 (He.ga K "_law_residue") fd__law_residue ["_law_clauses_here"] (spRes) := ⟨ok_wres (k := 0) F__law_residue bi N__law_once N__law_clause_key, F__law_residue.bindsN fun _ _ _ _ _ _ us hl => match us, hl with | [_], _ => rfl, g__law_residue, F__law_residue.kp⟩
  have N__law_given : Fn P w K mg base "_law_given" 6 (He.ga K "_law_given") fd__law_given ["_law_residue_here", "_law_literal_here"] (spUnd) := ⟨ok_wgiven (k := 0) F__law_given bi N__law_residue, F__law_given.bindsN fun _ _ _ _ _ _ us hl => match us, hl with | [_, _], _ => rfl, g__law_given, F__law_given.kp⟩
  have N__law_variables : Fn P w K mg base "_law_variables" 1 (He.ga K "_law_variables") fd__law_variables ["_law_residue_here"] (spVarL) := ⟨ok_wvars (k := 0) F__law_variables bi, F__law_variables.bindsN fun _ _ _ _ _ _ us hl => match us, hl with | [_], _ => rfl, g__law_variables, F__law_variables.kp⟩
  have N__law_literal : Fn P w K mg base "_law_literal" 2 (He.ga K "_law_literal") fd__law_literal ["_law_draw_here", "_law_variables_here"] (spLit) := ⟨ok_wlit (k := 0) F__law_literal bi N__law_take, F__law_literal.bindsN fun _ _ _ _ _ _ us hl => match us, hl with | [_, _], _ => rfl, g__law_literal, F__law_literal.kp⟩
  have N__law_clauses : Fn P w K mg base "_law_clauses" 6 (He.ga K "_law_clauses") fd__law_clauses ["_law_draw_here", "_law_variables_here", "_law_many"] (spCls) := ⟨ok_wcls (k := 0) F__law_clauses bi N__law_take N__law_literal N__law_clause N__law_residue, F__law_clauses.bindsN fun _ _ _ _ _ _ us hl => match us, hl with | [_, _, _], _ => rfl, g__law_clauses, F__law_clauses.kp⟩
  have N__law_formula : Fn P w K mg base "_law_formula" 7 (He.ga K "_law_formula") fd__law_formula ["_law_draw_here", "_law_most"] (spForm) := ⟨ok_wform (k := 0) F__law_formula bi N__law_take N__law_clauses, F__law_formula.bindsN fun _ _ _ _ _ _ us hl => match us, hl with | [_, _], _ => rfl, g__law_formula, F__law_formula.kp⟩
  have N__law_units : Fn P w K mg base "_law_units" 4 (He.ga K "_law_units") fd__law_units ["_law_residue_here"] (spUn) := ⟨ok_wunits (k := 0) F__law_units bi N__law_key, F__law_units.bindsN fun _ _ _ _ _ _ us hl => match us, hl with | [_], _ => rfl, g__law_units, F__law_units.kp⟩
  have N__law_propagated : Fn P w K mg base "_law_propagated" 7 (He.ga K "_law_propagated") fd__law_propagated ["_law_residue_here", "_law_literals"] (spProp K) := ⟨ok_wprop (k := 0) F__law_propagated N__law_given N__law_units, F__law_propagated.bindsN fun _ _ _ _ _ _ us hl => match us, hl with | [_, _], _ => rfl, g__law_propagated, F__law_propagated.kp⟩
  have N__law_parts : Fn P w K mg base "_law_parts" 6 (He.ga K "_law_parts") fd__law_parts ["_law_residue_here"] (spParts) := ⟨ok_wparts (k := 0) F__law_parts bi N__law_variables N__law_residue, F__law_parts.bindsN fun _ _ _ _ _ _ us hl => match us, hl with | [_], _ => rfl, g__law_parts, F__law_parts.kp⟩
  have N__law_lessened : Fn P w K mg base "_law_lessened" 1 (He.ga K "_law_lessened") fd__law_lessened ["_law_residue_here"] (spLess) := ⟨ok_wless (k := 0) F__law_lessened bi, F__law_lessened.bindsN fun _ _ _ _ _ _ us hl => match us, hl with | [_], _ => rfl, g__law_lessened, F__law_lessened.kp⟩
  exact ⟨bi, ⟨_, _, N__law_draw⟩, ⟨_, _, N__law_formula⟩, ⟨_, _, N__law_take⟩, ⟨_, _, N__law_literal⟩, ⟨_, _, N_units⟩, ⟨_, _, N__law_units⟩, ⟨_, _, N_propagate⟩, ⟨_, _, N__law_propagated⟩, ⟨_, _, N_lessened⟩, ⟨_, _, N__law_lessened⟩, ⟨_, _, N_shown_of⟩, ⟨_, _, N__law_variables⟩, ⟨_, _, N_parts_of⟩, ⟨_, _, N__law_parts⟩⟩
theorem law_fact {K : PySem.W.Frag} {h : Heap} {mg : Str → Option Value} {f : Addr} (X : K.In h) (G : h.Ns mainGlobals mg) (hfa : mg ("law" : Str) = some (.ref f)) (c : He.SaysD faAll fnAll K) :
    ∃ fd : FuncData, FunD K "law" "law" (defArgs wLaw) (defBody wLaw) (defScope wLaw) [] [] f fd ∧ ∀ (s : Shared) (v : Value), BindsTo s fd ⟨[v], []⟩ [("_law_script", v)] := by
  obtain ⟨fd, F⟩ := c.def_ 29 (d := dDef "law" (top 33)) rfl
  have e := hfa.symm.trans (He.glo_ok X G (c.fact 29 (f := .glo "law") rfl))
  cases e
  have b := FunD.bindsA (ps := ["_law_script"]) F fun _ _ _ _ _ _ us hl => match us, hl with | [_], _ => rfl
  exact ⟨fd, F, fun s v => b s [v] rfl⟩
end Cw
open PySem PySem.W PySem.Calls PyProof.Rows
theorem PySem.Challenge.cw_countsworn_k30_units_and_parts_holds : PySem.Challenge.rw_countsworn_k30_units_and_parts.Holds := by
  w_on; o_law
  refine HandSHeadRun.head_any (r := OpenLaw.row PySem.Challenge.rw_countsworn_k30_units_and_parts) (q := view (OpenLaw.row PySem.Challenge.rw_countsworn_k30_units_and_parts).prog [33]) (H := Cw.hkM) (ob := Cw.obM) (M := 3000) (loose := Cw.looseM) (d := HandSHeadRun.topDef (OpenLaw.row PySem.Challenge.rw_countsworn_k30_units_and_parts).prog 33) (kwd := []) Cw.obM_eq
    (by kernel_rfl) (fun s => by kernel_rfl) Cw.runM (by kernel_rfl) (by kernel_rfl) (by kernel_rfl) (by rfl) (by first | assumption | decide +kernel) (by decide +kernel) ⟨rfl, rfl, rfl, rfl, rfl, by decide +kernel⟩ ?hw ?hc
  case hw => w_witness2
  case hc =>
    refine Att.attach_call (l := PySem.Challenge.rw_countsworn_k30_units_and_parts) (n := 63) rfl (by kernel_rfl) fun w s0 s1 mg mb fa o pm cd doc a vs ns G Y ho hd hcd hmg hobj hints hlen hg => ?_
    obtain ⟨K, KX, c, hem⟩ := Y
    have hmg2 : mg ("law" : PySem.Str) = some (.ref fa) := by
      have e : (HandSHeadRun.topDef (OpenLaw.row PySem.Challenge.rw_countsworn_k30_units_and_parts).prog 33).name = ("law" : PySem.Str) := by kernel_rfl
      rw [← e]
      exact hmg
    obtain ⟨fd, F, hb⟩ := Cw.law_fact KX G.T.g hmg2 c
    exact Cw.law_at F hb KX G.T.g G.T.b G.T.builtins G.T.nolimit hg hobj hints hlen fun base _ _ => Cw.facts KX G.T.g c hem base
