import PyProof.Rows.All
import Wide.All
import OpenK.AllK
import Wide.FinOn
import HandS.ForMost
import HandS.ForExc
import HandS.IsInst
import HandS.ExcIs
import HandS.Star
import HandS.TupAny
import HandS.Strs
import HandS.SetFor
import HandS.Zip
import HandS.Walk
import HandS.Flow
import HandS.Style
import HandS.Conv
import HandS.Deep
import KE.KDictKeyed
import KE.KDictDisplayH
import KE.GoesEnum
import PySem.Challenge.RW_nextsuch_k40_whole_namings_by_all_little
set_option Elab.async false
set_option linter.all false
/-! the mathematics, 1: texts, namings, what they name; rows and how they grow -/
namespace Nx
abbrev Tx := List Int
abbrev Pr := Bool × List Int
abbrev Nm := List Pr
abbrev En := Bool × Nat
abbrev Ent := Option En
abbrev Rw := List Ent

/-- the letter at a place (from 1) is one of these -/
def hit (w : Tx) (L : List Int) (p : Nat) : Bool := decide (w.getD (p - 1) 0 ∈ L)
/-- the places lo, lo + 1, .. (n of them) at which one of L stands -/
def cand (w : Tx) (L : List Int) (lo n : Nat) : List Nat := (List.range' lo n).filter (hit w L)
def nextIn (w : Tx) (L : List Int) (p : Nat) : Option Nat := (cand w L (p + 1) (w.length - p)).head?
def lastIn (w : Tx) (L : List Int) (p : Nat) : Nat := ((cand w L 1 (p - 1)).getLast?).getD 0
/-- what an ask finds -/
def ask (w : Tx) (pr : Pr) (p : Nat) : Nat := if pr.1 then (nextIn w pr.2 p).getD (w.length + 1) else lastIn w pr.2 p
def goes (w : Tx) : List Pr → Nat → Nat
  | [], p => p
  | pr :: r, p => goes w r (ask w pr p)
def begP (N : Nm) (w : Tx) : Nat := if (N.headD (false, [])).1 then 0 else w.length + 1
/-- what a naming names -/
def named (N : Nm) (w : Tx) : Nat := goes w N (begP N w)

/-! ### rows -/
def side (N : Nm) (i : Nat) : Bool := (N.getD i (false, [])).1
def lets (N : Nm) (i : Nat) : List Int := (N.getD i (false, [])).2
/-- the first place from i on whose side is not b, or the length -/
def skip (b : Bool) (N : Nm) (i : Nat) : Nat := i + ((N.drop i).takeWhile fun pr => pr.1 == b).length
def goneOn (N : Nm) (i : Nat) : En := if skip false N (i + 1) = N.length then (true, 0) else (false, skip false N (i + 1))
def begun (N : Nm) : Rw := (List.range N.length).map (fun i => if side N i then none else some (goneOn N i)) ++ [if side N 0 then some (false, 0) else none]
/-- with_found; the first number: fuel -/
def wFound (N : Nm) (row : Rw) (a : Int) (p : Nat) : Nat → Nat → En
  | 0, _ => (true, p)
  | f + 1, i => if i + 1 = N.length then (true, p) else if side N (i + 1) then (false, i + 1) else
    match row.getD (i + 1) none with
    | some (false, k) => if a ∈ lets N k then wFound N row a p f k else (false, k)
    | some (true, q) => (true, q)
    | none => (true, p)
def wLast (N : Nm) (row : Rw) (a : Int) (p f : Nat) : En → En
  | (false, k) => if a ∈ lets N k then wFound N row a p f k else (false, k)
  | (true, q) => (true, q)
def grow1 (N : Nm) (row : Rw) (a : Int) (p i : Nat) : Ent → Ent
  | none => none
  | some e => some (if i < N.length ∧ a ∈ lets N i then wFound N row a p N.length i else wLast N row a p N.length e)
def grown (N : Nm) (row : Rw) (a : Int) (p : Nat) : Rw := row.mapIdx fun i e => grow1 N row a p i e
def rowOf (N : Nm) (w : Tx) : Rw := (w.foldl (fun (s : Rw × Nat) a => (grown N s.1 a (s.2 + 1), s.2 + 1)) (begun N, 0)).1
theorem rowOf_nil (N : Nm) : rowOf N [] = begun N := rfl
theorem rowOf_snd (N : Nm) (w : Tx) : ∀ s : Rw × Nat, (w.foldl (fun (s : Rw × Nat) a => (grown N s.1 a (s.2 + 1), s.2 + 1)) s).2 = s.2 + w.length := by
  induction w with
  | nil => intro s; rfl
  | cons a w ih => intro s; rw [List.foldl_cons, ih, List.length_cons]; show s.2 + 1 + w.length = _; omega
theorem rowOf_snoc (N : Nm) (w : Tx) (a : Int) : rowOf N (w ++ [a]) = grown N (rowOf N w) a (w.length + 1) := by
  unfold rowOf
  rw [List.foldl_append, List.foldl_cons, List.foldl_nil, rowOf_snd]
  show grown N _ a (0 + w.length + 1) = _
  rw [Nat.zero_add]
/-- ended, by an entry; none: the back -/
def endE (N : Nm) (row : Rw) : Nat → En → Option Nat
  | 0, _ => none
  | _ + 1, (true, q) => some q
  | f + 1, (false, k) => if skip true N (k + 1) = N.length then none else
    match row.getD (skip true N (k + 1)) none with
    | some e => endE N row f e
    | none => none
def lastE (N : Nm) (row : Rw) : En := match row.getD N.length none with
  | some e => e
  | none => (row.getD 0 none).getD (true, 0)
def endR (N : Nm) (row : Rw) : Option Nat := endE N row (N.length + 1) (lastE N row)
def ended (N : Nm) (row : Rw) (n : Nat) : Nat := (endR N row).getD (n + 1)

/-! ### the meaning of a row -/
def run (w : Tx) : List Pr → Nat → Nat → En
  | [], _, p => (true, p)
  | (true, L) :: r, j, p => match nextIn w L p with
    | some q => run w r (j + 1) q
    | none => (false, j)
  | (false, L) :: r, j, p => run w r (j + 1) (lastIn w L p)
def semAt (N : Nm) (w : Tx) (i : Nat) : Ent :=
  if i < N.length then (if side N i then none else some (run w (N.drop i) i (w.length + 1))) else (if side N 0 then some (run w N 0 0) else none)
def sem (N : Nm) (w : Tx) : Rw := (List.range (N.length + 1)).map (semAt N w)

theorem getD_snoc (w : Tx) (a : Int) (i : Nat) (h : i < w.length) : (w ++ [a]).getD i 0 = w.getD i 0 := by
  simp [List.getD_eq_getElem?_getD, List.getElem?_append_left h]
theorem getD_snoc_last (w : Tx) (a : Int) : (w ++ [a]).getD w.length 0 = a := by
  simp [List.getD_eq_getElem?_getD]
theorem hit_snoc {w : Tx} {a : Int} {L : List Int} {p : Nat} (h0 : 1 ≤ p) (h : p ≤ w.length) : hit (w ++ [a]) L p = hit w L p := by
  unfold hit
  rw [getD_snoc w a (p - 1) (by omega)]
theorem hit_last {w : Tx} {a : Int} {L : List Int} : hit (w ++ [a]) L (w.length + 1) = decide (a ∈ L) := by
  unfold hit
  rw [Nat.add_sub_cancel, getD_snoc_last]
theorem cand_snoc {w : Tx} {a : Int} {L : List Int} {lo n : Nat} (h0 : 1 ≤ lo) (h : lo + n ≤ w.length + 1) : cand (w ++ [a]) L lo n = cand w L lo n := by
  unfold cand
  refine List.filter_congr fun p hp => ?_
  have := List.mem_range'_1.mp hp
  exact hit_snoc (by omega) (by omega)
theorem lastIn_snoc {w : Tx} {a : Int} {L : List Int} {p : Nat} (h : p ≤ w.length + 1) : lastIn (w ++ [a]) L p = lastIn w L p := by
  unfold lastIn
  rw [cand_snoc (by omega) (by omega)]
theorem cand_succ (w : Tx) (L : List Int) (lo n : Nat) : cand w L lo (n + 1) = cand w L lo n ++ (if hit w L (lo + n) then [lo + n] else []) := by
  unfold cand
  rw [List.range'_1_concat, List.filter_append]
  congr 1
  by_cases h : hit w L (lo + n) <;> simp [h]
theorem mem_cand {w : Tx} {L : List Int} {lo n p : Nat} : p ∈ cand w L lo n ↔ (lo ≤ p ∧ p < lo + n) ∧ hit w L p = true := by
  unfold cand
  rw [List.mem_filter, List.mem_range'_1]
theorem lastIn_le (w : Tx) (L : List Int) (p : Nat) : lastIn w L p ≤ p - 1 := by
  unfold lastIn
  cases h : (cand w L 1 (p - 1)).getLast? with
  | none => simp
  | some q =>
    have := mem_cand.mp (List.mem_of_getLast? h)
    simp; omega
theorem nextIn_le {w : Tx} {L : List Int} {p q : Nat} (h : nextIn w L p = some q) : p < q ∧ q ≤ w.length ∧ hit w L q = true := by
  have := mem_cand.mp (List.mem_of_head? h)
  exact ⟨by omega, by omega, this.2⟩
theorem nextIn_snoc {w : Tx} {a : Int} {L : List Int} {p : Nat} (h : p ≤ w.length) : nextIn (w ++ [a]) L p = match nextIn w L p with
    | some q => some q
    | none => if a ∈ L then some (w.length + 1) else none := by
  have e : (w ++ [a]).length - p = (w.length - p) + 1 := by simp; omega
  have e2 : p + 1 + (w.length - p) = w.length + 1 := by omega
  unfold nextIn
  rw [e, cand_succ, cand_snoc (by omega) (by omega), e2, hit_last]
  cases hc : cand w L (p + 1) (w.length - p) with
  | nil => by_cases ha : a ∈ L <;> simp [ha]
  | cons q r => rfl
theorem nextIn_end {w : Tx} {L : List Int} {p : Nat} (h : w.length ≤ p) : nextIn w L p = none := by
  unfold nextIn
  rw [Nat.sub_eq_zero_of_le h]
  rfl
theorem lastIn_top {w : Tx} {a : Int} {L : List Int} : lastIn (w ++ [a]) L (w.length + 2) = if a ∈ L then w.length + 1 else lastIn w L (w.length + 1) := by
  have e : w.length + 2 - 1 = w.length + 1 := rfl
  have e2 : w.length + 1 - 1 = w.length := rfl
  unfold lastIn
  rw [e, e2, cand_succ, cand_snoc (by omega) (by omega), Nat.add_comm 1 w.length, hit_last]
  by_cases ha : a ∈ L <;> simp [ha]
theorem run_pos (w : Tx) : ∀ (r : List Pr) (j p : Nat), p ≤ w.length → ∀ q, run w r j p = (true, q) → q ≤ w.length
  | [], j, p, hp, q, h => by
    have e : p = q := (Prod.mk.inj h).2
    omega
  | (true, L) :: r, j, p, hp, q, h => by
    rw [run] at h
    cases hn : nextIn w L p with
    | none => rw [hn] at h; cases h
    | some q' =>
      rw [hn] at h
      exact run_pos w r (j + 1) q' (nextIn_le hn).2.1 q h
  | (false, L) :: r, j, p, hp, q, h => by
    rw [run] at h
    exact run_pos w r (j + 1) _ (by have := lastIn_le w L p; omega) q h
theorem run_on (w : Tx) : ∀ (r : List Pr) (j p k : Nat), run w r j p = (false, k) → j ≤ k ∧ k < j + r.length ∧ ∃ L, r[k - j]? = some (true, L)
  | [], j, p, k, h => by cases h
  | (true, L) :: r, j, p, k, h => by
    rw [run] at h
    cases hn : nextIn w L p with
    | none =>
      rw [hn] at h
      have e : j = k := (Prod.mk.inj h).2
      subst e
      refine ⟨Nat.le_refl _, by simp, L, by simp⟩
    | some q' =>
      rw [hn] at h
      obtain ⟨h1, h2, L', h3⟩ := run_on w r (j + 1) q' k h
      refine ⟨by omega, by simp; omega, L', ?_⟩
      have e : k - j = (k - (j + 1)) + 1 := by omega
      rw [e, List.getElem?_cons_succ]
      exact h3
  | (false, L) :: r, j, p, k, h => by
    rw [run] at h
    obtain ⟨h1, h2, L', h3⟩ := run_on w r (j + 1) _ k h
    refine ⟨by omega, by simp; omega, L', ?_⟩
    have e : k - j = (k - (j + 1)) + 1 := by omega
    rw [e, List.getElem?_cons_succ]
    exact h3
theorem run_empty_on (r : List Pr) : ∀ j, run [] r j 0 = if r.takeWhile (fun pr => pr.1 == false) = r then (true, 0) else (false, j + (r.takeWhile fun pr => pr.1 == false).length) := by
  induction r with
  | nil => intro j; rfl
  | cons pr r ih =>
    intro j
    obtain ⟨b, L⟩ := pr
    cases b with
    | true => simp [run, nextIn, cand]
    | false =>
      have e : lastIn [] L 0 = 0 := rfl
      rw [run, e, ih (j + 1)]
      have e1 : (((false, L) : Pr) :: r).takeWhile (fun pr => pr.1 == false) = (false, L) :: r.takeWhile (fun pr => pr.1 == false) := rfl
      rw [e1]
      by_cases h : r.takeWhile (fun pr => pr.1 == false) = r
      · rw [if_pos h, if_pos (by rw [h])]
      · rw [if_neg h, if_neg (fun z => h (List.cons.inj z).2), List.length_cons]
        congr 1
        rw [Nat.add_assoc, Nat.add_comm 1]
theorem takeWhile_len {α : Type} (p : α → Bool) : ∀ l : List α, (l.takeWhile p).length ≤ l.length ∧ (l.takeWhile p = l ↔ (l.takeWhile p).length = l.length)
  | [] => by simp
  | a :: l => by
    have ih := takeWhile_len p l
    rw [List.takeWhile_cons]
    cases h : p a with
    | false => simp
    | true => simp; exact ih
theorem skip_le {b : Bool} {N : Nm} {i : Nat} (h : i ≤ N.length) : i ≤ skip b N i ∧ skip b N i ≤ N.length := by
  unfold skip
  have := (takeWhile_len (fun pr : Pr => pr.1 == b) (N.drop i)).1
  rw [List.length_drop] at this
  omega
theorem skip_end {b : Bool} {N : Nm} {i : Nat} (h : i ≤ N.length) : skip b N i = N.length ↔ (N.drop i).takeWhile (fun pr => pr.1 == b) = N.drop i := by
  have h1 := takeWhile_len (fun pr : Pr => pr.1 == b) (N.drop i)
  rw [h1.2]
  unfold skip
  rw [List.length_drop]
  omega
theorem takeWhile_stop {α : Type} (p : α → Bool) : ∀ l : List α, ∀ x, l[(l.takeWhile p).length]? = some x → p x = false
  | [], x, h => by simp at h
  | a :: l, x, h => by
    rw [List.takeWhile_cons] at h
    cases hp : p a with
    | false => rw [hp] at h; simp at h; rw [← h]; exact hp
    | true => rw [hp] at h; simp at h; exact takeWhile_stop p l x h
theorem skip_side {b : Bool} {N : Nm} {i : Nat} (h : i ≤ N.length) (hl : skip b N i < N.length) : side N (skip b N i) = !b := by
  have e : N[skip b N i]? = (N.drop i)[((N.drop i).takeWhile fun pr => pr.1 == b).length]? := by
    rw [List.getElem?_drop]; rfl
  have hs := takeWhile_stop (fun pr : Pr => pr.1 == b) (N.drop i) (N[skip b N i]) (by rw [← e]; simp [hl])
  unfold side
  rw [List.getD_eq_getElem?_getD, List.getElem?_eq_getElem hl]
  show (N[skip b N i]).1 = !b
  revert hs
  cases (N[skip b N i]).1 <;> cases b <;> simp
theorem side_drop {N : Nm} {i : Nat} (h : i < N.length) : N.drop i = (side N i, lets N i) :: N.drop (i + 1) := by
  rw [List.drop_eq_getElem_cons h]
  unfold side lets
  rw [List.getD_eq_getElem?_getD, List.getElem?_eq_getElem h]
  rfl
theorem sem_nil (N : Nm) (hN : N ≠ []) : sem N [] = begun N := by
  have hl : 0 < N.length := List.length_pos_iff.mpr hN
  unfold sem begun
  rw [List.range_succ, List.map_append]
  congr 1
  · refine List.map_congr_left fun i hi => ?_
    have hi' := List.mem_range.mp hi
    unfold semAt
    rw [if_pos hi']
    cases hs : side N i with
    | true => rfl
    | false =>
      simp only [Bool.false_eq_true, if_false]
      congr 1
      rw [side_drop hi', hs]
      have e : lastIn [] (lets N i) (([] : Tx).length + 1) = 0 := rfl
      rw [run, e, run_empty_on]
      unfold goneOn
      by_cases h : skip false N (i + 1) = N.length
      · rw [if_pos h, if_pos ((skip_end (by omega)).mp h)]
      · rw [if_neg h, if_neg (fun z => h ((skip_end (by omega)).mpr z))]
        rfl
  · show [semAt N [] N.length] = _
    unfold semAt
    rw [if_neg (Nat.lt_irrefl _)]
    cases hs : side N 0 with
    | false => rfl
    | true =>
      simp only [if_true]
      have e := side_drop hl
      rw [List.drop_zero] at e
      rw [e, hs, run]
      rfl
theorem getD_sem {N : Nm} {w : Tx} {i : Nat} (h : i ≤ N.length) : (sem N w).getD i none = semAt N w i := by
  unfold sem
  rw [List.getD_eq_getElem?_getD, List.getElem?_map, List.getElem?_range (by omega)]
  rfl
/-- what an entry becomes by one more letter -/
def ext (N : Nm) (w : Tx) (a : Int) : En → En
  | (true, q) => (true, q)
  | (false, k) => if a ∈ lets N k then run (w ++ [a]) (N.drop (k + 1)) (k + 1) (w.length + 1) else (false, k)
theorem run_snoc (N : Nm) (w : Tx) (a : Int) : ∀ (n j p : Nat), N.length - j = n → j ≤ N.length → p ≤ w.length → run (w ++ [a]) (N.drop j) j p = ext N w a (run w (N.drop j) j p)
  | 0, j, p, hn, hj, hp => by
    have e : N.drop j = [] := List.drop_eq_nil_of_le (by omega)
    rw [e]
    rfl
  | n + 1, j, p, hn, hj, hp => by
    have hj' : j < N.length := by omega
    rw [side_drop hj']
    cases hs : side N j with
    | false =>
      rw [run, run, lastIn_snoc (by omega)]
      exact run_snoc N w a n (j + 1) _ (by omega) (by omega) (by have := lastIn_le w (lets N j) p; omega)
    | true =>
      rw [run, run, nextIn_snoc hp]
      cases h : nextIn w (lets N j) p with
      | some q => exact run_snoc N w a n (j + 1) q (by omega) (by omega) (nextIn_le h).2.1
      | none =>
        by_cases ha : a ∈ lets N j
        · simp [ext, ha]
        · simp [ext, ha]
theorem wFound_sem (N : Nm) (w : Tx) (a : Int) : ∀ (f k : Nat), N.length - k ≤ f → k < N.length → wFound N (sem N w) a (w.length + 1) f k = run (w ++ [a]) (N.drop (k + 1)) (k + 1) (w.length + 1)
  | 0, k, h, hk => by omega
  | f + 1, k, h, hk => by
    rw [wFound]
    by_cases h1 : k + 1 = N.length
    · rw [if_pos h1, List.drop_eq_nil_of_le (by omega)]
      rfl
    · rw [if_neg h1]
      have hk1 : k + 1 < N.length := by omega
      rw [side_drop hk1]
      cases hs : side N (k + 1) with
      | true =>
        rw [run, nextIn_end (by simp)]
        simp
      | false =>
        rw [getD_sem (by omega), run, lastIn_snoc (by omega)]
        unfold semAt
        rw [if_pos hk1, hs]
        simp only [Bool.false_eq_true, if_false]
        rw [run_snoc N w a _ (k + 1 + 1) _ rfl (by omega) (by have := lastIn_le w (lets N (k + 1)) (w.length + 1); omega), side_drop hk1, hs, run]
        cases he : run w (N.drop (k + 1 + 1)) (k + 1 + 1) (lastIn w (lets N (k + 1)) (w.length + 1)) with
        | mk b q =>
          cases b with
          | true => rfl
          | false =>
            have ho := run_on _ _ _ _ _ he
            rw [List.length_drop] at ho
            simp only [ext]
            by_cases ha : a ∈ lets N q
            · rw [if_pos ha, if_pos ha]
              exact wFound_sem N w a f q (by omega) (by omega)
            · rw [if_neg ha, if_neg ha]
theorem wLast_sem (N : Nm) (w : Tx) (a : Int) (e : En) (he : ∀ k, e = (false, k) → k < N.length) : wLast N (sem N w) a (w.length + 1) N.length e = ext N w a e := by
  obtain ⟨b, q⟩ := e
  cases b with
  | true => rfl
  | false =>
    have hq := he q rfl
    simp only [wLast, ext]
    by_cases ha : a ∈ lets N q
    · rw [if_pos ha, if_pos ha, wFound_sem N w a _ _ (by omega) hq]
    · rw [if_neg ha, if_neg ha]
theorem semAt_on {N : Nm} {w : Tx} {i k : Nat} (h : semAt N w i = some (false, k)) : k < N.length ∧ side N k = true ∧ (i < N.length → i < k) := by
  unfold semAt at h
  by_cases hi : i < N.length
  · rw [if_pos hi] at h
    cases hs : side N i with
    | true => rw [hs] at h; simp at h
    | false =>
      rw [hs] at h
      simp only [Bool.false_eq_true, if_false, Option.some.injEq] at h
      rw [side_drop hi, hs, run] at h
      obtain ⟨h1, h2, L, h3⟩ := run_on _ _ _ _ _ h
      rw [List.length_drop] at h2
      rw [List.getElem?_drop] at h3
      have e : i + 1 + (k - (i + 1)) = k := by omega
      rw [e] at h3
      refine ⟨by omega, ?_, fun _ => by omega⟩
      unfold side
      rw [List.getD_eq_getElem?_getD, h3]
      rfl
  · rw [if_neg hi] at h
    cases hs : side N 0 with
    | false => rw [hs] at h; simp at h
    | true =>
      rw [hs] at h
      simp only [if_true, Option.some.injEq] at h
      obtain ⟨h1, h2, L, h3⟩ := run_on _ _ _ _ _ h
      rw [Nat.sub_zero] at h3
      refine ⟨by omega, ?_, fun z => absurd z hi⟩
      unfold side
      rw [List.getD_eq_getElem?_getD, h3]
      rfl
theorem grown_sem (N : Nm) (w : Tx) (a : Int) : grown N (sem N w) a (w.length + 1) = sem N (w ++ [a]) := by
  have hlen : (sem N w).length = N.length + 1 := by unfold sem; rw [List.length_map, List.length_range]
  unfold grown
  refine List.ext_getElem? fun i => ?_
  rw [List.getElem?_mapIdx]
  by_cases hi : i < N.length + 1
  · have e1 : (sem N w)[i]? = some (semAt N w i) := by
      unfold sem
      rw [List.getElem?_map, List.getElem?_range hi]
      rfl
    have e2 : (sem N (w ++ [a]))[i]? = some (semAt N (w ++ [a]) i) := by
      unfold sem
      rw [List.getElem?_map, List.getElem?_range hi]
      rfl
    rw [e1, e2]
    show some (grow1 N (sem N w) a (w.length + 1) i (semAt N w i)) = _
    congr 1
    cases he : semAt N w i with
    | none =>
      show none = _
      unfold semAt at he ⊢
      by_cases h : i < N.length
      · rw [if_pos h] at he ⊢
        cases hs : side N i with
        | true => rfl
        | false => rw [hs] at he; simp at he
      · rw [if_neg h] at he ⊢
        cases hs : side N 0 with
        | false => rfl
        | true => rw [hs] at he; simp at he
    | some e =>
      have hon : ∀ k, e = (false, k) → k < N.length := fun k hk => (semAt_on (k := k) (by rw [he, hk])).1
      show some (if i < N.length ∧ a ∈ lets N i then _ else _) = _
      by_cases h : i < N.length
      · have hl : (w ++ [a]).length + 1 = w.length + 2 := by simp
        unfold semAt at he ⊢
        rw [if_pos h] at he ⊢
        cases hs : side N i with
        | true => rw [hs] at he; simp at he
        | false =>
          rw [hs] at he
          simp only [Bool.false_eq_true, if_false, Option.some.injEq] at he ⊢
          rw [hl, side_drop h, hs, run, lastIn_top]
          by_cases ha : a ∈ lets N i
          · rw [if_pos ⟨h, ha⟩, if_pos ha, wFound_sem N w a _ _ (by omega) h]
          · rw [if_neg (fun z => ha z.2), if_neg ha, wLast_sem N w a e hon, run_snoc N w a _ (i + 1) _ rfl (by omega) (by have := lastIn_le w (lets N i) (w.length + 1); omega)]
            rw [side_drop h, hs, run] at he
            rw [he]
      · rw [if_neg (fun z => h z.1), wLast_sem N w a e hon]
        unfold semAt at he ⊢
        rw [if_neg h] at he ⊢
        cases hs : side N 0 with
        | false => rw [hs] at he; simp at he
        | true =>
          rw [hs] at he
          simp only [if_true, Option.some.injEq] at he ⊢
          have := run_snoc N w a _ 0 0 rfl (Nat.zero_le _) (Nat.zero_le _)
          rw [List.drop_zero] at this
          rw [this, he]
  · rw [List.getElem?_eq_none (by omega), List.getElem?_eq_none (by unfold sem; rw [List.length_map, List.length_range]; omega)]
    rfl
theorem snoc_ind {P : Tx → Prop} (h0 : P []) (hs : ∀ w a, P w → P (w ++ [a])) (w : Tx) : P w := by
  have h : ∀ (n : Nat) (w : Tx), w.length = n → P w := by
    intro n
    induction n with
    | zero => intro w hw; rw [List.length_eq_zero_iff.mp hw]; exact h0
    | succ n ih =>
      intro w hw
      have hne : w ≠ [] := fun z => by rw [z] at hw; cases hw
      rw [← List.dropLast_concat_getLast hne]
      exact hs _ _ (ih _ (by rw [List.length_dropLast]; omega))
  exact h _ w rfl
/-- a row is what it means -/
theorem rowOf_sem (N : Nm) (hN : N ≠ []) (w : Tx) : rowOf N w = sem N w := by
  induction w using snoc_ind with
  | h0 => rw [rowOf_nil, sem_nil N hN]
  | hs w a ih => rw [rowOf_snoc, ih, grown_sem]
end Nx
/-! the mathematics, 2: a row's end is what the naming names; forms; what a letter less changes -/
namespace Nx
/-! ### the end -/
theorem headD_side (N : Nm) : (N.headD (false, [])).1 = side N 0 := by
  cases N with
  | nil => rfl
  | cons a r => rfl
theorem goes_run (N : Nm) (w : Tx) : ∀ (n j p : Nat), N.length - j = n → j ≤ N.length → goes w (N.drop j) p = match run w (N.drop j) j p with
    | (true, q) => q
    | (false, k) => goes w (N.drop (k + 1)) (w.length + 1)
  | 0, j, p, hn, hj => by
    have e : N.drop j = [] := List.drop_eq_nil_of_le (by omega)
    rw [e]
    rfl
  | n + 1, j, p, hn, hj => by
    have hj' : j < N.length := by omega
    rw [side_drop hj', goes]
    cases hs : side N j with
    | false =>
      rw [run]
      exact goes_run N w n (j + 1) _ (by omega) (by omega)
    | true =>
      rw [run]
      show goes w (N.drop (j + 1)) ((nextIn w (lets N j) p).getD (w.length + 1)) = _
      cases h : nextIn w (lets N j) p with
      | none => rfl
      | some q => exact goes_run N w n (j + 1) q (by omega) (by omega)
theorem goes_back (w : Tx) : ∀ r : List Pr, goes w r (w.length + 1) = goes w (r.drop (r.takeWhile fun pr => pr.1 == true).length) (w.length + 1)
  | [] => rfl
  | (false, L) :: r => rfl
  | (true, L) :: r => by
    have e : ask w (true, L) (w.length + 1) = w.length + 1 := by
      unfold ask
      rw [if_pos rfl, nextIn_end (by omega)]
      rfl
    rw [goes, e, goes_back w r]
    rfl
def val (N : Nm) (w : Tx) : En → Nat
  | (true, q) => q
  | (false, k) => goes w (N.drop (k + 1)) (w.length + 1)
theorem goes_skip (N : Nm) (w : Tx) (j : Nat) : goes w (N.drop j) (w.length + 1) = goes w (N.drop (skip true N j)) (w.length + 1) := by
  rw [goes_back, List.drop_drop]
  rfl
theorem endE_val (N : Nm) (w : Tx) : ∀ (f : Nat) (e : En), (∀ k, e = (false, k) → k < N.length ∧ N.length - k < f) → 1 ≤ f → (endE N (sem N w) f e).getD (w.length + 1) = val N w e
  | 0, _, _, h => by omega
  | f + 1, (true, q), _, _ => rfl
  | f + 1, (false, k), hk, _ => by
    obtain ⟨h1, h2⟩ := hk k rfl
    have hsk := skip_le (b := true) (N := N) (i := k + 1) (by omega)
    show (if skip true N (k + 1) = N.length then none else match (sem N w).getD (skip true N (k + 1)) none with
      | some e => endE N (sem N w) f e
      | none => none).getD (w.length + 1) = goes w (N.drop (k + 1)) (w.length + 1)
    rw [goes_skip]
    by_cases hs : skip true N (k + 1) = N.length
    · rw [if_pos hs, hs, List.drop_length]
      rfl
    · rw [if_neg hs, getD_sem hsk.2]
      have hlt : skip true N (k + 1) < N.length := by omega
      have hsd : side N (skip true N (k + 1)) = false := skip_side (by omega) hlt
      have hsem : semAt N w (skip true N (k + 1)) = some (run w (N.drop (skip true N (k + 1))) (skip true N (k + 1)) (w.length + 1)) := by
        unfold semAt
        rw [if_pos hlt, hsd]
        rfl
      rw [hsem]
      show (endE N (sem N w) f (run w (N.drop (skip true N (k + 1))) (skip true N (k + 1)) (w.length + 1))).getD (w.length + 1) = _
      rw [endE_val N w f _ (fun k' hk' => ?_) (by omega)]
      · rw [goes_run N w _ (skip true N (k + 1)) (w.length + 1) rfl hsk.2]
        cases run w (N.drop (skip true N (k + 1))) (skip true N (k + 1)) (w.length + 1) with
        | mk b q => cases b <;> rfl
      · have := semAt_on (k := k') (by rw [hsem, hk'])
        have h3 := this.2.2 hlt
        exact ⟨this.1, by omega⟩
theorem lastE_sem (N : Nm) (hN : N ≠ []) (w : Tx) : val N w (lastE N (sem N w)) = named N w ∧ ∀ k, lastE N (sem N w) = (false, k) → k < N.length := by
  have hl : 0 < N.length := List.length_pos_iff.mpr hN
  unfold lastE named begP
  rw [getD_sem (Nat.le_refl _), headD_side]
  have e0 : (sem N w).getD 0 none = semAt N w 0 := getD_sem (Nat.zero_le _)
  cases hs : side N 0 with
  | true =>
    have e : semAt N w N.length = some (run w N 0 0) := by
      unfold semAt
      rw [if_neg (Nat.lt_irrefl _), hs]
      rfl
    rw [e]
    have hg := goes_run N w _ 0 0 rfl (Nat.zero_le _)
    rw [List.drop_zero] at hg
    refine ⟨?_, fun k hk => (semAt_on (i := N.length) (by rw [e]; exact congrArg some hk)).1⟩
    show val N w (run w N 0 0) = goes w N 0
    rw [hg]
    cases run w N 0 0 with
    | mk b q => cases b <;> rfl
  | false =>
    have e : semAt N w N.length = none := by
      unfold semAt
      rw [if_neg (Nat.lt_irrefl _), hs]
      rfl
    have e1 : semAt N w 0 = some (run w N 0 (w.length + 1)) := by
      unfold semAt
      rw [if_pos hl, hs, List.drop_zero]
      rfl
    rw [e]
    show val N w (((sem N w).getD 0 none).getD (true, 0)) = _ ∧ ∀ k, ((sem N w).getD 0 none).getD (true, 0) = (false, k) → _
    rw [e0, e1]
    have hg := goes_run N w _ 0 (w.length + 1) rfl (Nat.zero_le _)
    rw [List.drop_zero] at hg
    refine ⟨?_, fun k hk => (semAt_on (i := 0) (by rw [e1]; exact congrArg some hk)).1⟩
    show val N w (run w N 0 (w.length + 1)) = goes w N (w.length + 1)
    rw [hg]
    cases run w N 0 (w.length + 1) with
    | mk b q => cases b <;> rfl
/-- what the end of a row tells is what the naming names -/
theorem ended_named (N : Nm) (hN : N ≠ []) (w : Tx) : ended N (rowOf N w) w.length = named N w := by
  rw [rowOf_sem N hN]
  obtain ⟨h1, h2⟩ := lastE_sem N hN w
  unfold ended endR
  rw [endE_val N w _ _ (fun k hk => ⟨h2 k hk, by omega⟩) (by omega), h1]

/-! ### places renamed -/
def mapE (f : Nat → Nat) : En → En
  | (true, q) => (true, f q)
  | (false, k) => (false, k)
def mapR (f : Nat → Nat) (row : Rw) : Rw := row.map (Option.map (mapE f))
theorem getD_mapR (f : Nat → Nat) (row : Rw) (i : Nat) : (mapR f row).getD i none = (row.getD i none).map (mapE f) := by
  unfold mapR
  rw [List.getD_eq_getElem?_getD, List.getD_eq_getElem?_getD, List.getElem?_map]
  cases row[i]? <;> rfl
theorem wFound_map (f : Nat → Nat) (N : Nm) (row : Rw) (a : Int) (p : Nat) : ∀ fu i, wFound N (mapR f row) a (f p) fu i = mapE f (wFound N row a p fu i)
  | 0, _ => rfl
  | fu + 1, i => by
    rw [wFound, wFound, getD_mapR]
    by_cases h1 : i + 1 = N.length
    · rw [if_pos h1, if_pos h1]; rfl
    · rw [if_neg h1, if_neg h1]
      cases side N (i + 1) with
      | true => rfl
      | false =>
        simp only [Bool.false_eq_true, if_false]
        cases row.getD (i + 1) none with
        | none => rfl
        | some e =>
          obtain ⟨b, q⟩ := e
          cases b with
          | true => rfl
          | false =>
            show (if a ∈ lets N q then wFound N (mapR f row) a (f p) fu q else (false, q)) = mapE f (if a ∈ lets N q then wFound N row a p fu q else (false, q))
            by_cases ha : a ∈ lets N q
            · rw [if_pos ha, if_pos ha, wFound_map f N row a p fu q]
            · rw [if_neg ha, if_neg ha]; rfl
theorem wLast_map (f : Nat → Nat) (N : Nm) (row : Rw) (a : Int) (p fu : Nat) (e : En) : wLast N (mapR f row) a (f p) fu (mapE f e) = mapE f (wLast N row a p fu e) := by
  obtain ⟨b, q⟩ := e
  cases b with
  | true => rfl
  | false =>
    show (if a ∈ lets N q then wFound N (mapR f row) a (f p) fu q else (false, q)) = mapE f (if a ∈ lets N q then wFound N row a p fu q else (false, q))
    by_cases ha : a ∈ lets N q
    · rw [if_pos ha, if_pos ha, wFound_map f N row a p fu q]
    · rw [if_neg ha, if_neg ha]; rfl
theorem grown_map (f : Nat → Nat) (N : Nm) (row : Rw) (a : Int) (p : Nat) : grown N (mapR f row) a (f p) = mapR f (grown N row a p) := by
  refine List.ext_getElem? fun i => ?_
  unfold grown
  rw [List.getElem?_mapIdx]
  unfold mapR
  rw [List.getElem?_map, List.getElem?_map, List.getElem?_mapIdx]
  cases row[i]? with
  | none => rfl
  | some e =>
    cases e with
    | none => rfl
    | some e =>
      show some (some (if i < N.length ∧ a ∈ lets N i then wFound N (mapR f row) a (f p) N.length i else wLast N (mapR f row) a (f p) N.length (mapE f e))) = some (some (mapE f (if i < N.length ∧ a ∈ lets N i then wFound N row a p N.length i else wLast N row a p N.length e)))
      by_cases h : i < N.length ∧ a ∈ lets N i
      · rw [if_pos h, if_pos h, wFound_map]
      · rw [if_neg h, if_neg h, wLast_map]
theorem endE_map (f : Nat → Nat) (N : Nm) (row : Rw) : ∀ fu e, endE N (mapR f row) fu (mapE f e) = (endE N row fu e).map f
  | 0, _ => rfl
  | fu + 1, (true, q) => rfl
  | fu + 1, (false, k) => by
    show (if skip true N (k + 1) = N.length then none else match (mapR f row).getD (skip true N (k + 1)) none with
      | some e => endE N (mapR f row) fu e
      | none => none) = (if skip true N (k + 1) = N.length then none else match row.getD (skip true N (k + 1)) none with
      | some e => endE N row fu e
      | none => none).map f
    rw [getD_mapR]
    by_cases h : skip true N (k + 1) = N.length
    · rw [if_pos h, if_pos h]; rfl
    · rw [if_neg h, if_neg h]
      cases row.getD (skip true N (k + 1)) none with
      | none => rfl
      | some e => exact endE_map f N row fu e
theorem endR_map (f : Nat → Nat) (N : Nm) (row : Rw) (h0 : f 0 = 0) : endR N (mapR f row) = (endR N row).map f := by
  unfold endR
  have e : lastE N (mapR f row) = mapE f (lastE N row) := by
    unfold lastE
    rw [getD_mapR, getD_mapR]
    cases row.getD N.length none with
    | some e => rfl
    | none =>
      cases row.getD 0 none with
      | some e => rfl
      | none =>
        show ((true, 0) : En) = (true, f 0)
        rw [h0]
  rw [e, endE_map]
/-- the places told in a row are at most b -/
def RB (b : Nat) (row : Rw) : Prop := ∀ q, some (true, q) ∈ row → q ≤ b
theorem getD_mem {row : Rw} {i : Nat} {e : En} (h : row.getD i none = some e) : some e ∈ row := by
  rw [List.getD_eq_getElem?_getD] at h
  cases h1 : row[i]? with
  | none => rw [h1] at h; cases h
  | some x => rw [h1] at h; have e1 : x = some e := h; rw [← e1]; exact List.mem_of_getElem? h1
theorem wFound_rb {b : Nat} {N : Nm} {row : Rw} {a : Int} {p : Nat} (hr : RB b row) (hp : p ≤ b) : ∀ fu i q, wFound N row a p fu i = (true, q) → q ≤ b
  | 0, _, q, h => by have e : p = q := (Prod.mk.inj h).2; omega
  | fu + 1, i, q, h => by
    rw [wFound] at h
    by_cases h1 : i + 1 = N.length
    · rw [if_pos h1] at h
      have e : p = q := (Prod.mk.inj h).2
      omega
    · rw [if_neg h1] at h
      cases hs : side N (i + 1) with
      | true => rw [hs] at h; simp at h
      | false =>
        rw [hs] at h
        simp only [Bool.false_eq_true, if_false] at h
        cases he : row.getD (i + 1) none with
        | none => rw [he] at h; have e : p = q := (Prod.mk.inj h).2; omega
        | some e =>
          obtain ⟨bb, k⟩ := e
          rw [he] at h
          cases bb with
          | true =>
            have e : k = q := (Prod.mk.inj h).2
            exact hr q (by rw [← e]; exact getD_mem he)
          | false =>
            have h : (if a ∈ lets N k then wFound N row a p fu k else (false, k)) = (true, q) := h
            by_cases ha : a ∈ lets N k
            · rw [if_pos ha] at h; exact wFound_rb hr hp fu k q h
            · rw [if_neg ha] at h; cases h
theorem grown_rb {b : Nat} {N : Nm} {row : Rw} {a : Int} {p : Nat} (hr : RB b row) (hp : p ≤ b) : RB b (grown N row a p) := fun q hq => by
  unfold grown at hq
  obtain ⟨i, hi⟩ := List.getElem?_of_mem hq
  rw [List.getElem?_mapIdx] at hi
  cases he : row[i]? with
  | none => rw [he] at hi; cases hi
  | some e =>
    rw [he] at hi
    cases e with
    | none => cases hi
    | some e =>
      have hi : (if i < N.length ∧ a ∈ lets N i then wFound N row a p N.length i else wLast N row a p N.length e) = (true, q) := Option.some.inj (Option.some.inj hi)
      by_cases h : i < N.length ∧ a ∈ lets N i
      · rw [if_pos h] at hi; exact wFound_rb hr hp _ _ _ hi
      · rw [if_neg h] at hi
        obtain ⟨bb, k⟩ := e
        cases bb with
        | true =>
          have e1 : k = q := (Prod.mk.inj hi).2
          exact hr q (by rw [← e1]; exact List.mem_of_getElem? he)
        | false =>
          have hi : (if a ∈ lets N k then wFound N row a p N.length k else (false, k)) = (true, q) := hi
          by_cases ha : a ∈ lets N k
          · rw [if_pos ha] at hi; exact wFound_rb hr hp _ _ _ hi
          · rw [if_neg ha] at hi; cases hi
theorem endE_rb {b : Nat} {N : Nm} {row : Rw} (hr : RB b row) : ∀ fu e q, (∀ q, e = (true, q) → q ≤ b) → endE N row fu e = some q → q ≤ b
  | 0, _, q, _, h => by cases h
  | fu + 1, (true, k), q, he, h => by
    have e : k = q := Option.some.inj h
    exact he q (by rw [e])
  | fu + 1, (false, k), q, _, h => by
    have h : (if skip true N (k + 1) = N.length then none else match row.getD (skip true N (k + 1)) none with
      | some e => endE N row fu e
      | none => none) = some q := h
    by_cases hs : skip true N (k + 1) = N.length
    · rw [if_pos hs] at h; cases h
    · rw [if_neg hs] at h
      cases he : row.getD (skip true N (k + 1)) none with
      | none => rw [he] at h; cases h
      | some e => rw [he] at h; exact endE_rb hr fu e q (fun q' hq' => hr q' (by rw [← hq']; exact getD_mem he)) h
theorem endR_rb {b : Nat} {N : Nm} {row : Rw} (hr : RB b row) {q : Nat} (h : endR N row = some q) : q ≤ b := by
  refine endE_rb hr _ _ q (fun q' hq' => ?_) h
  unfold lastE at hq'
  cases h1 : row.getD N.length none with
  | some e => rw [h1] at hq'; exact hr q' (by rw [← hq']; exact getD_mem h1)
  | none =>
    rw [h1] at hq'
    cases h2 : row.getD 0 none with
    | some e => rw [h2] at hq'; exact hr q' (by have e1 : e = (true, q') := hq'; rw [← e1]; exact getD_mem h2)
    | none => rw [h2] at hq'; have e1 : 0 = q' := (Prod.mk.inj hq').2; omega
theorem sem_rb (N : Nm) (w : Tx) : RB w.length (sem N w) := fun q hq => by
  unfold sem at hq
  obtain ⟨i, hi, he⟩ := List.mem_map.mp hq
  have hi := List.mem_range.mp hi
  unfold semAt at he
  by_cases h : i < N.length
  · rw [if_pos h] at he
    cases hs : side N i with
    | true => rw [hs] at he; simp at he
    | false =>
      rw [hs] at he
      simp only [Bool.false_eq_true, if_false, Option.some.injEq] at he
      rw [side_drop h, hs, run] at he
      exact run_pos w _ _ _ (by have := lastIn_le w (lets N i) (w.length + 1); omega) q he
  · rw [if_neg h] at he
    cases hs : side N 0 with
    | false => rw [hs] at he; simp at he
    | true =>
      rw [hs] at he
      simp only [if_true, Option.some.injEq] at he
      exact run_pos w _ _ _ (Nat.zero_le _) q he

/-! ### forms -/
def atOf : Ent → Option Nat
  | some (true, p) => some p
  | _ => none
def ats (rows : List Rw) : List Nat := rows.flatten.filterMap atOf
def places (rows : List Rw) : List Nat := (List.range ((ats rows).foldl max 0 + 1)).filter fun p => decide (p ∈ 0 :: ats rows)
theorem le_foldl_max : ∀ (l : List Nat) (b x : Nat), x ≤ b ∨ x ∈ l → x ≤ l.foldl max b
  | [], b, x, h => by simpa using h
  | a :: l, b, x, h => by
    refine le_foldl_max l (max b a) x ?_
    rcases h with h | h
    · exact .inl (by omega)
    · rcases List.mem_cons.mp h with h | h
      · exact .inl (by omega)
      · exact .inr h
theorem mem_places {rows : List Rw} {p : Nat} : p ∈ places rows ↔ p ∈ 0 :: ats rows := by
  unfold places
  rw [List.mem_filter, List.mem_range, decide_eq_true_eq]
  refine ⟨fun h => h.2, fun h => ⟨?_, h⟩⟩
  have : p ≤ (ats rows).foldl max 0 := le_foldl_max _ _ _ (by
    rcases List.mem_cons.mp h with h | h
    · exact .inl (by omega)
    · exact .inr h)
  omega
theorem places_asc (rows : List Rw) : (places rows).Pairwise (· < ·) := List.Pairwise.filter _ List.pairwise_lt_range
theorem asc_eq : ∀ {l1 l2 : List Nat}, l1.Pairwise (· < ·) → l2.Pairwise (· < ·) → (∀ x, x ∈ l1 ↔ x ∈ l2) → l1 = l2
  | [], [], _, _, _ => rfl
  | [], b :: l2, _, _, h => by have := (h b).mpr List.mem_cons_self; cases this
  | a :: l1, [], _, _, h => by have := (h a).mp List.mem_cons_self; cases this
  | a :: l1, b :: l2, h1, h2, h => by
    rw [List.pairwise_cons] at h1 h2
    have ha : a = b := by
      have p1 := (h a).mp List.mem_cons_self
      have p2 := (h b).mpr List.mem_cons_self
      rcases List.mem_cons.mp p1 with e | e
      · exact e
      · rcases List.mem_cons.mp p2 with e2 | e2
        · exact e2.symm
        · have := h2.1 a e
          have := h1.1 b e2
          omega
    subst ha
    congr 1
    refine asc_eq h1.2 h2.2 fun x => ⟨fun hx => ?_, fun hx => ?_⟩
    · rcases List.mem_cons.mp ((h x).mp (List.mem_cons_of_mem _ hx)) with e | e
      · have := h1.1 x hx; omega
      · exact e
    · rcases List.mem_cons.mp ((h x).mpr (List.mem_cons_of_mem _ hx)) with e | e
      · have := h2.1 x hx; omega
      · exact e
theorem filterMap_cg {α β : Type} {f g : α → Option β} : ∀ {l : List α}, (∀ x ∈ l, f x = g x) → l.filterMap f = l.filterMap g
  | [], _ => rfl
  | a :: l, h => by
    rw [List.filterMap_cons, List.filterMap_cons, h a List.mem_cons_self, filterMap_cg fun x hx => h x (List.mem_cons_of_mem _ hx)]
def formOf (rows : List Rw) (w : Tx) : List Rw × List Int :=
  (rows.map (mapR fun p => (places rows).idxOf p), ((places rows).drop 1).map fun p => w.getD (p - 1) 0)
theorem ats_map (f : Nat → Nat) (rows : List Rw) : ats (rows.map (mapR f)) = (ats rows).map f := by
  unfold ats
  induction rows with
  | nil => rfl
  | cons r rows ih =>
    rw [List.map_cons, List.flatten_cons, List.flatten_cons, List.filterMap_append, List.filterMap_append, List.map_append, ih]
    congr 1
    unfold mapR
    rw [List.filterMap_map, List.map_filterMap]
    refine filterMap_cg fun e _ => ?_
    cases e with
    | none => rfl
    | some e => obtain ⟨b, q⟩ := e; cases b <;> rfl
theorem places_map {f : Nat → Nat} {rows : List Rw} (h0 : f 0 = 0) (hm : ∀ i j, i ∈ places rows → j ∈ places rows → i < j → f i < f j) : places (rows.map (mapR f)) = (places rows).map f := by
  refine asc_eq (places_asc _) ?_ fun x => ?_
  · rw [List.pairwise_map]
    exact (places_asc rows).imp_of_mem fun hi hj h => hm _ _ hi hj h
  · rw [mem_places, ats_map, List.mem_map]
    constructor
    · intro h
      rcases List.mem_cons.mp h with h | h
      · exact ⟨0, mem_places.mpr List.mem_cons_self, by rw [h0, h]⟩
      · obtain ⟨p, hp, e⟩ := List.mem_map.mp h
        exact ⟨p, mem_places.mpr (List.mem_cons_of_mem _ hp), e⟩
    · rintro ⟨p, hp, e⟩
      rcases List.mem_cons.mp (mem_places.mp hp) with h | h
      · exact List.mem_cons.mpr (.inl (by rw [← e, h, h0]))
      · exact List.mem_cons_of_mem _ (List.mem_map.mpr ⟨p, h, e⟩)
theorem idxOf_map {f : Nat → Nat} : ∀ {l : List Nat} {p : Nat}, (∀ x ∈ l, f x = f p → x = p) → (l.map f).idxOf (f p) = l.idxOf p
  | [], p, _ => rfl
  | a :: l, p, h => by
    rw [List.map_cons, List.idxOf_cons, List.idxOf_cons, idxOf_map fun x hx => h x (List.mem_cons_of_mem _ hx)]
    by_cases e : a = p
    · subst e; simp
    · have : ¬ f a = f p := fun z => e (h a List.mem_cons_self z)
      rw [show (f a == f p) = false from beq_false_of_ne this, show (a == p) = false from beq_false_of_ne e]
theorem mapR_congr {f g : Nat → Nat} {row : Rw} (h : ∀ q, some (true, q) ∈ row → f q = g q) : mapR f row = mapR g row := by
  unfold mapR
  refine List.map_congr_left fun e he => ?_
  cases e with
  | none => rfl
  | some e =>
    obtain ⟨b, q⟩ := e
    cases b with
    | false => rfl
    | true =>
      show some (true, f q) = some (true, g q)
      rw [h q he]
theorem mapR_mapR (f g : Nat → Nat) (row : Rw) : mapR f (mapR g row) = mapR (fun p => f (g p)) row := by
  unfold mapR
  rw [List.map_map]
  refine List.map_congr_left fun e _ => ?_
  cases e with
  | none => rfl
  | some e => obtain ⟨b, q⟩ := e; cases b <;> rfl
theorem mapR_id (row : Rw) : mapR (fun p => p) row = row := by
  unfold mapR
  conv => rhs; rw [← List.map_id row]
  refine List.map_congr_left fun e _ => ?_
  cases e with
  | none => rfl
  | some e => obtain ⟨b, q⟩ := e; cases b <;> rfl
theorem mem_ats {rows : List Rw} {row : Rw} {q : Nat} (hr : row ∈ rows) (hq : some (true, q) ∈ row) : q ∈ ats rows := by
  unfold ats
  rw [List.mem_filterMap]
  exact ⟨some (true, q), List.mem_flatten.mpr ⟨row, hr, hq⟩, rfl⟩
theorem of_mem_ats {rows : List Rw} {q : Nat} (h : q ∈ ats rows) : ∃ row ∈ rows, some (true, q) ∈ row := by
  unfold ats at h
  obtain ⟨e, he, h1⟩ := List.mem_filterMap.mp h
  obtain ⟨row, hr, hq⟩ := List.mem_flatten.mp he
  refine ⟨row, hr, ?_⟩
  cases e with
  | none => cases h1
  | some e =>
    obtain ⟨b, k⟩ := e
    cases b with
    | false => cases h1
    | true => have e1 : k = q := Option.some.inj h1; rw [← e1]; exact hq
/-- a form, where the places are renamed in their order -/
theorem formOf_map {f : Nat → Nat} {rows : List Rw} (w : Tx) (h0 : f 0 = 0) (hm : ∀ i j, i ∈ places rows → j ∈ places rows → i < j → f i < f j) :
    formOf (rows.map (mapR f)) w = (rows.map (mapR fun p => (places rows).idxOf p), ((places rows).drop 1).map fun p => w.getD (f p - 1) 0) := by
  unfold formOf
  rw [places_map h0 hm]
  congr 1
  · rw [List.map_map]
    refine List.map_congr_left fun row hrow => ?_
    show mapR _ (mapR f row) = _
    rw [mapR_mapR]
    refine mapR_congr fun q hq => idxOf_map fun x hx e => ?_
    have hq' : q ∈ places rows := mem_places.mpr (List.mem_cons_of_mem _ (mem_ats hrow hq))
    rcases Nat.lt_trichotomy x q with h | h | h
    · have := hm _ _ hx hq' h; omega
    · exact h
    · have := hm _ _ hq' hx h; omega
  · rw [← List.map_drop, List.map_map]
    rfl
theorem places_cons (rows : List Rw) : ∃ r, places rows = 0 :: r ∧ ∀ p ∈ r, 1 ≤ p := by
  have h := places_asc rows
  have hz : 0 ∈ places rows := mem_places.mpr List.mem_cons_self
  cases hp : places rows with
  | nil => rw [hp] at hz; cases hz
  | cons a r =>
    rw [hp] at hz h
    rw [List.pairwise_cons] at h
    have ha : a = 0 := by
      rcases List.mem_cons.mp hz with e | e
      · exact e.symm
      · have := h.1 0 e; omega
    subst ha
    exact ⟨r, rfl, fun p hp => h.1 p hp⟩
theorem formOf_same {f : Nat → Nat} {rows : List Rw} {w w' : Tx} (h0 : f 0 = 0) (hm : ∀ i j, i ∈ places rows → j ∈ places rows → i < j → f i < f j) (hl : ∀ p, p ∈ places rows → 1 ≤ p → w'.getD (f p - 1) 0 = w.getD (p - 1) 0) :
    formOf (rows.map (mapR f)) w' = formOf rows w := by
  rw [formOf_map w' h0 hm]
  unfold formOf
  congr 1
  refine List.map_congr_left fun p hp => ?_
  obtain ⟨r, e, h1⟩ := places_cons rows
  exact hl p (List.mem_of_mem_drop hp) (h1 p (by rw [e] at hp; exact hp))
end Nx
/-! the mathematics, 3: texts of one form; a letter less; the order of texts -/
namespace Nx
def rowsOf (Ns : List Nm) (w : Tx) : List Rw := Ns.map fun N => rowOf N w
def form (Ns : List Nm) (w : Tx) : List Rw × List Int := formOf (rowsOf Ns w) w
/-- what stands at a place: a letter, false the front, true the back -/
def stand (w : Tx) (p : Nat) : Sum Int Bool := if p = 0 then .inr false else if w.length < p then .inr true else .inl (w.getD (p - 1) 0)
theorem stand_back (w : Tx) : stand w (w.length + 1) = .inr true := by
  unfold stand
  rw [if_neg (by omega), if_pos (by omega)]
/-- two texts in which all the namings are seen alike -/
structure VR (Ns : List Nm) (u v : Tx) : Prop where
  lt : ∀ N1 ∈ Ns, ∀ N2 ∈ Ns, (named N1 u < named N2 u ↔ named N1 v < named N2 v)
  st : ∀ N ∈ Ns, stand u (named N u) = stand v (named N v)
theorem VR.eq {Ns : List Nm} {u v : Tx} (h : VR Ns u v) {N1 N2 : Nm} (h1 : N1 ∈ Ns) (h2 : N2 ∈ Ns) : named N1 u = named N2 u ↔ named N1 v = named N2 v := by
  have a := h.lt N1 h1 N2 h2
  have b := h.lt N2 h2 N1 h1
  constructor <;> intro e <;> rcases Nat.lt_trichotomy (named N1 u) (named N2 u) with c | c | c <;> rcases Nat.lt_trichotomy (named N1 v) (named N2 v) with d | d | d <;> first | omega | (have := a.mp c; omega) | (have := b.mp c; omega) | (have := a.mpr d; omega) | (have := b.mpr d; omega)
theorem VR.refl (Ns : List Nm) (u : Tx) : VR Ns u u := ⟨fun _ _ _ _ => Iff.rfl, fun _ _ => rfl⟩
theorem VR.symm {Ns : List Nm} {u v : Tx} (h : VR Ns u v) : VR Ns v u := ⟨fun N1 h1 N2 h2 => (h.lt N1 h1 N2 h2).symm, fun N hN => (h.st N hN).symm⟩
theorem VR.trans {Ns : List Nm} {u v w : Tx} (h : VR Ns u v) (g : VR Ns v w) : VR Ns u w := ⟨fun N1 h1 N2 h2 => (h.lt N1 h1 N2 h2).trans (g.lt N1 h1 N2 h2), fun N hN => (h.st N hN).trans (g.st N hN)⟩

/-- both texts' rows are one row, its places renamed -/
structure Al (Ns : List Nm) (u v : Tx) (k : Nat) (G : List Rw) (f g : Nat → Nat) : Prop where
  rb : ∀ r ∈ G, RB k r
  ru : rowsOf Ns u = G.map (mapR f)
  rv : rowsOf Ns v = G.map (mapR g)
  f0 : f 0 = 0
  g0 : g 0 = 0
  fm : ∀ i j, i < j → j ≤ k + 1 → f i < f j
  gm : ∀ i j, i < j → j ≤ k + 1 → g i < g j
  fe : f (k + 1) = u.length + 1
  ge : g (k + 1) = v.length + 1
  le : ∀ i, 1 ≤ i → i ≤ k → u.getD (f i - 1) 0 = v.getD (g i - 1) 0
theorem asc_get : ∀ {l : List Nat} {i j : Nat}, l.Pairwise (· < ·) → i < j → j < l.length → l.getD i 0 < l.getD j 0 := fun {l i j} h hij hj => by
  rw [List.getD_eq_getElem?_getD, List.getD_eq_getElem?_getD, List.getElem?_eq_getElem hj, List.getElem?_eq_getElem (Nat.lt_trans hij hj)]
  exact (List.pairwise_iff_getElem.mp h) i j (Nat.lt_trans hij hj) hj hij
theorem getD_idxOf {l : List Nat} {p : Nat} (h : p ∈ l) : l.getD (l.idxOf p) 0 = p := by
  rw [List.getD_eq_getElem?_getD, List.getElem?_eq_getElem (List.idxOf_lt_length_of_mem h)]
  exact List.getElem_idxOf _
theorem rows_rb (Ns : List Nm) (hN : ∀ N ∈ Ns, N ≠ []) (w : Tx) : ∀ p ∈ places (rowsOf Ns w), p ≤ w.length := fun p hp => by
  rcases List.mem_cons.mp (mem_places.mp hp) with h | h
  · omega
  · obtain ⟨row, hr, hq⟩ := of_mem_ats h
    obtain ⟨N, hN', e⟩ := List.mem_map.mp hr
    rw [← e, rowOf_sem N (hN N hN')] at hq
    exact sem_rb N w p hq
theorem rows_split (rows : List Rw) (k : Nat) (hk : (places rows).length = k + 1) (n : Nat) : ∃ f : Nat → Nat, (∀ i, i ≤ k → f i = (places rows).getD i 0) ∧ (∀ i, k < i → f i = n) ∧ (∀ r ∈ rows.map (mapR fun p => (places rows).idxOf p), RB k r) ∧ rows = (rows.map (mapR fun p => (places rows).idxOf p)).map (mapR f) := by
  refine ⟨fun i => if i ≤ k then (places rows).getD i 0 else n, fun i hi => if_pos hi, fun i hi => if_neg (by omega), fun r hr q hq => ?_, ?_⟩
  · obtain ⟨r0, hr0, e⟩ := List.mem_map.mp hr
    rw [← e] at hq
    unfold mapR at hq
    obtain ⟨x, hx, e2⟩ := List.mem_map.mp hq
    cases x with
    | none => cases e2
    | some x =>
      obtain ⟨b, q0⟩ := x
      cases b with
      | false => cases e2
      | true =>
        have e3 : (places rows).idxOf q0 = q := (Prod.mk.inj (Option.some.inj e2)).2
        have := List.idxOf_lt_length_of_mem (mem_places.mpr (List.mem_cons_of_mem 0 (mem_ats hr0 hx)))
        omega
  · rw [List.map_map]
    conv => lhs; rw [← List.map_id rows]
    refine List.map_congr_left fun row hrow => ?_
    show row = mapR _ (mapR _ row)
    rw [mapR_mapR]
    conv => lhs; rw [← mapR_id row]
    refine mapR_congr fun q hq => ?_
    have hm := mem_places.mpr (List.mem_cons_of_mem 0 (mem_ats hrow hq))
    have := List.idxOf_lt_length_of_mem hm
    show q = if (places rows).idxOf q ≤ k then _ else n
    rw [if_pos (by omega), getD_idxOf hm]
/-- texts of one form -/
theorem al_of {Ns : List Nm} (hN : ∀ N ∈ Ns, N ≠ []) {u v : Tx} (h : form Ns u = form Ns v) : ∃ k G f g, Al Ns u v k G f g := by
  unfold form formOf at h
  obtain ⟨h1, h2⟩ := Prod.mk.inj h
  have hlu : ∃ k, (places (rowsOf Ns u)).length = k + 1 := by obtain ⟨r, e, _⟩ := places_cons (rowsOf Ns u); exact ⟨r.length, by rw [e]; rfl⟩
  have hlv : ∃ k, (places (rowsOf Ns v)).length = k + 1 := by obtain ⟨r, e, _⟩ := places_cons (rowsOf Ns v); exact ⟨r.length, by rw [e]; rfl⟩
  obtain ⟨k, hk⟩ := hlu
  obtain ⟨k', hk'⟩ := hlv
  have hkk : k = k' := by
    have := congrArg List.length h2
    simp only [List.length_map, List.length_drop] at this
    omega
  subst hkk
  obtain ⟨f, f1, f2, f3, f4⟩ := rows_split (rowsOf Ns u) k hk (u.length + 1)
  obtain ⟨g, g1, g2, g3, g4⟩ := rows_split (rowsOf Ns v) k hk' (v.length + 1)
  rw [← h1] at g4
  have z : ∀ (w : Tx), (places (rowsOf Ns w)).getD 0 0 = 0 := fun w => by obtain ⟨r, e, _⟩ := places_cons (rowsOf Ns w); rw [e]; rfl
  have mono : ∀ (w : Tx) (f : Nat → Nat), (places (rowsOf Ns w)).length = k + 1 → (∀ i, i ≤ k → f i = (places (rowsOf Ns w)).getD i 0) → (∀ i, k < i → f i = w.length + 1) → ∀ i j, i < j → j ≤ k + 1 → f i < f j := fun w f hl a b i j hij hj => by
    by_cases hjk : j ≤ k
    · rw [a i (by omega), a j hjk]
      exact asc_get (places_asc _) hij (by omega)
    · rw [a i (by omega), b j (by omega)]
      have hm : (places (rowsOf Ns w)).getD i 0 ∈ places (rowsOf Ns w) := by
        rw [List.getD_eq_getElem?_getD, List.getElem?_eq_getElem (show i < (places (rowsOf Ns w)).length by omega)]
        exact List.getElem_mem _
      have := rows_rb Ns hN w _ hm
      omega
  refine ⟨k, _, f, g, f3, f4, g4, by rw [f1 0 (Nat.zero_le _), z], by rw [g1 0 (Nat.zero_le _), z], mono u f hk f1 f2, mono v g hk' g1 g2, f2 _ (by omega), g2 _ (by omega), fun i hi hik => ?_⟩
  have e := congrArg (fun l => l[i - 1]?) h2
  simp only [List.getElem?_map, List.getElem?_drop] at e
  rw [show 1 + (i - 1) = i by omega, List.getElem?_eq_getElem (show i < (places (rowsOf Ns u)).length by omega), List.getElem?_eq_getElem (show i < (places (rowsOf Ns v)).length by omega)] at e
  have gu : (places (rowsOf Ns u)).getD i 0 = (places (rowsOf Ns u))[i]'(by omega) := by
    rw [List.getD_eq_getElem?_getD, List.getElem?_eq_getElem (show i < (places (rowsOf Ns u)).length by omega)]
    rfl
  have gv : (places (rowsOf Ns v)).getD i 0 = (places (rowsOf Ns v))[i]'(by omega) := by
    rw [List.getD_eq_getElem?_getD, List.getElem?_eq_getElem (show i < (places (rowsOf Ns v)).length by omega)]
    rfl
  rw [f1 i hik, g1 i hik, gu, gv]
  exact Option.some.inj e
section
variable {Ns : List Nm} {u v : Tx} {k : Nat} {G : List Rw} {f g : Nat → Nat}
theorem Al.symm (A : Al Ns u v k G f g) : Al Ns v u k G g f :=
  ⟨A.rb, A.rv, A.ru, A.g0, A.f0, A.gm, A.fm, A.ge, A.fe, fun i a b => (A.le i a b).symm⟩
theorem zip_map_l {α β γ : Type} (F : α → β → γ) (h : β → β) : ∀ (xs : List α) (ys : List β), List.zipWith F xs (ys.map h) = List.zipWith (fun x y => F x (h y)) xs ys
  | [], _ => by simp
  | _ :: _, [] => rfl
  | x :: xs, y :: ys => by rw [List.map_cons, List.zipWith_cons_cons, List.zipWith_cons_cons, zip_map_l F h xs ys]
theorem zip_self_map {α β γ : Type} (F : α → β → γ) (h : α → β) : ∀ (xs : List α), List.zipWith F xs (xs.map h) = xs.map fun x => F x (h x)
  | [] => rfl
  | x :: xs => by rw [List.map_cons, List.zipWith_cons_cons, List.map_cons, zip_self_map F h xs]
theorem map_zip {α β γ δ : Type} (F : α → β → γ) (h : γ → δ) : ∀ (xs : List α) (ys : List β), (List.zipWith F xs ys).map h = List.zipWith (fun x y => h (F x y)) xs ys
  | [], _ => by simp
  | _ :: _, [] => by simp
  | x :: xs, y :: ys => by rw [List.zipWith_cons_cons, List.map_cons, List.zipWith_cons_cons, map_zip F h xs ys]
theorem mem_zip {α β γ : Type} {F : α → β → γ} : ∀ {xs : List α} {ys : List β} {z : γ}, z ∈ List.zipWith F xs ys → ∃ x ∈ xs, ∃ y ∈ ys, F x y = z
  | [], _, _, h => by simp at h
  | _ :: _, [], _, h => by simp at h
  | x :: xs, y :: ys, z, h => by
    rw [List.zipWith_cons_cons] at h
    rcases List.mem_cons.mp h with e | e
    · exact ⟨x, List.mem_cons_self, y, List.mem_cons_self, e.symm⟩
    · obtain ⟨x', hx, y', hy, e'⟩ := mem_zip e
      exact ⟨x', List.mem_cons_of_mem _ hx, y', List.mem_cons_of_mem _ hy, e'⟩
/-- the rows behind one more letter -/
theorem Al.more (A : Al Ns u v k G f g) (a : Int) : rowsOf Ns (u ++ [a]) = (List.zipWith (fun N r => grown N r a (k + 1)) Ns G).map (mapR f) := by
  rw [map_zip]
  have e1 : rowsOf Ns (u ++ [a]) = List.zipWith (fun N r => grown N r a (u.length + 1)) Ns (rowsOf Ns u) := by
    unfold rowsOf
    rw [zip_self_map]
    exact List.map_congr_left fun N _ => rowOf_snoc N u a
  rw [e1, A.ru, zip_map_l, ← A.fe]
  congr 1
  funext N r
  exact grown_map f N r a (k + 1)
theorem Al.form_more (A : Al Ns u v k G f g) (a : Int) : form Ns (u ++ [a]) = (((List.zipWith (fun N r => grown N r a (k + 1)) Ns G).map (mapR fun p => (places (List.zipWith (fun N r => grown N r a (k + 1)) Ns G)).idxOf p)),
    ((places (List.zipWith (fun N r => grown N r a (k + 1)) Ns G)).drop 1).map fun p => (u ++ [a]).getD (f p - 1) 0) ∧ ∀ p ∈ places (List.zipWith (fun N r => grown N r a (k + 1)) Ns G), p ≤ k + 1 := by
  have hb : ∀ p ∈ places (List.zipWith (fun N r => grown N r a (k + 1)) Ns G), p ≤ k + 1 := fun p hp => by
    rcases List.mem_cons.mp (mem_places.mp hp) with h | h
    · omega
    · obtain ⟨row, hr, hq⟩ := of_mem_ats h
      obtain ⟨N, _, r, hr', e⟩ := mem_zip hr
      rw [← e] at hq
      exact grown_rb (fun q hq => Nat.le_succ_of_le (A.rb r hr' q hq)) (Nat.le_refl _) p hq
  refine ⟨?_, hb⟩
  unfold form
  rw [A.more, formOf_map (u ++ [a]) A.f0 fun i j hi hj hij => A.fm i j hij (hb j hj)]
theorem Al.next (A : Al Ns u v k G f g) (a : Int) : form Ns (u ++ [a]) = form Ns (v ++ [a]) := by
  obtain ⟨e1, hb⟩ := A.form_more a
  obtain ⟨e2, _⟩ := A.symm.form_more a
  rw [e1, e2]
  congr 1
  refine List.map_congr_left fun p hp => ?_
  obtain ⟨r, e, h1⟩ := places_cons (List.zipWith (fun N r => grown N r a (k + 1)) Ns G)
  have hp1 : 1 ≤ p := h1 p (by rw [e] at hp; exact hp)
  have hpk : p ≤ k + 1 := hb p (List.mem_of_mem_drop hp)
  by_cases h : p = k + 1
  · rw [h, A.fe, A.ge, Nat.add_sub_cancel, Nat.add_sub_cancel, getD_snoc_last, getD_snoc_last]
  · have hf := A.fm p (k + 1) (by omega) (Nat.le_refl _)
    have hg := A.gm p (k + 1) (by omega) (Nat.le_refl _)
    have hf0 := A.fm 0 p (by omega) hpk
    have hg0 := A.gm 0 p (by omega) hpk
    rw [A.fe] at hf
    rw [A.ge] at hg
    rw [getD_snoc u a _ (by omega), getD_snoc v a _ (by omega)]
    exact A.le p hp1 (by omega)
theorem Al.end_ (A : Al Ns u v k G f g) (hN : ∀ N ∈ Ns, N ≠ []) {i : Nat} {N : Nm} (hi : Ns[i]? = some N) : ∃ o : Option Nat, (∀ q, o = some q → q ≤ k) ∧ named N u = (o.map f).getD (u.length + 1) ∧ named N v = (o.map g).getD (v.length + 1) := by
  have hu : (rowsOf Ns u)[i]? = some (rowOf N u) := by unfold rowsOf; rw [List.getElem?_map, hi]; rfl
  have hv : (rowsOf Ns v)[i]? = some (rowOf N v) := by unfold rowsOf; rw [List.getElem?_map, hi]; rfl
  rw [A.ru, List.getElem?_map] at hu
  rw [A.rv, List.getElem?_map] at hv
  have hm := List.mem_of_getElem? hi
  cases hG : G[i]? with
  | none => rw [hG] at hu; cases hu
  | some r =>
    rw [hG] at hu hv
    have eu : mapR f r = rowOf N u := Option.some.inj hu
    have ev : mapR g r = rowOf N v := Option.some.inj hv
    refine ⟨endR N r, fun q hq => endR_rb (A.rb r (List.mem_of_getElem? hG)) hq, ?_, ?_⟩
    · rw [← ended_named N (hN N hm) u, ← eu]
      unfold ended
      rw [endR_map f N r A.f0]
    · rw [← ended_named N (hN N hm) v, ← ev]
      unfold ended
      rw [endR_map g N r A.g0]
theorem Al.lt_iff (A : Al Ns u v k G f g) {o1 o2 : Option Nat} (h1 : ∀ q, o1 = some q → q ≤ k) (h2 : ∀ q, o2 = some q → q ≤ k) : ((o1.map f).getD (u.length + 1) < (o2.map f).getD (u.length + 1) ↔ o1.getD (k + 1) < o2.getD (k + 1)) := by
  have e : ∀ o : Option Nat, (o.map f).getD (u.length + 1) = f (o.getD (k + 1)) := fun o => by
    cases o with
    | none => exact A.fe.symm
    | some q => rfl
  have b : ∀ o : Option Nat, (∀ q, o = some q → q ≤ k) → o.getD (k + 1) ≤ k + 1 := fun o h => by
    cases o with
    | none => exact Nat.le_refl _
    | some q => exact Nat.le_succ_of_le (h q rfl)
  rw [e, e]
  have b1 := b o1 h1
  have b2 := b o2 h2
  constructor
  · intro h
    rcases Nat.lt_trichotomy (o1.getD (k + 1)) (o2.getD (k + 1)) with c | c | c
    · exact c
    · rw [c] at h; omega
    · have := A.fm _ _ c b1; omega
  · intro h
    exact A.fm _ _ h b2
theorem Al.vr (A : Al Ns u v k G f g) (hN : ∀ N ∈ Ns, N ≠ []) : VR Ns u v where
  lt := fun N1 h1 N2 h2 => by
    obtain ⟨i, hi⟩ := List.getElem?_of_mem h1
    obtain ⟨j, hj⟩ := List.getElem?_of_mem h2
    obtain ⟨o1, b1, eu1, ev1⟩ := A.end_ hN hi
    obtain ⟨o2, b2, eu2, ev2⟩ := A.end_ hN hj
    rw [eu1, ev1, eu2, ev2, A.lt_iff b1 b2, A.symm.lt_iff b1 b2]
  st := fun N h1 => by
    obtain ⟨i, hi⟩ := List.getElem?_of_mem h1
    obtain ⟨o, b, eu, ev⟩ := A.end_ hN hi
    rw [eu, ev]
    cases o with
    | none =>
      show stand u (u.length + 1) = stand v (v.length + 1)
      rw [stand_back, stand_back]
    | some q =>
      have hq := b q rfl
      show stand u (f q) = stand v (g q)
      unfold stand
      by_cases h0 : q = 0
      · subst h0
        rw [if_pos A.f0, if_pos A.g0]
      · have a1 := A.fm 0 q (by omega) (by omega)
        have a2 := A.gm 0 q (by omega) (by omega)
        have a3 := A.fm q (k + 1) (by omega) (Nat.le_refl _)
        have a4 := A.gm q (k + 1) (by omega) (Nat.le_refl _)
        rw [A.fe] at a3
        rw [A.ge] at a4
        rw [if_neg (by omega), if_neg (by omega), if_neg (by omega), if_neg (by omega), A.le q (by omega) hq]
end
theorem form_next {Ns : List Nm} (hN : ∀ N ∈ Ns, N ≠ []) {u v : Tx} (h : form Ns u = form Ns v) (a : Int) : form Ns (u ++ [a]) = form Ns (v ++ [a]) := by
  obtain ⟨k, G, f, g, A⟩ := al_of hN h
  exact A.next a
theorem form_vr {Ns : List Nm} (hN : ∀ N ∈ Ns, N ≠ []) {u v : Tx} (h : form Ns u = form Ns v) : VR Ns u v := by
  obtain ⟨k, G, f, g, A⟩ := al_of hN h
  exact A.vr hN

/-! ### a letter less -/
def up (d p : Nat) : Nat := if p < d then p else p + 1
def less (d : Nat) (w : Tx) : Tx := w.eraseIdx (d - 1)
section
variable {w : Tx} {d : Nat} (h1 : 1 ≤ d) (hd : d ≤ w.length)
include h1 hd
theorem less_len : (less d w).length + 1 = w.length := by
  unfold less
  rw [List.length_eraseIdx_of_lt (by omega)]
  omega
theorem less_get {p : Nat} (hp : 1 ≤ p) : (less d w).getD (p - 1) 0 = w.getD (up d p - 1) 0 := by
  unfold less up
  rw [List.getD_eq_getElem?_getD, List.getD_eq_getElem?_getD, List.getElem?_eraseIdx]
  by_cases h : p < d
  · rw [if_pos (by omega), if_pos h]
  · rw [if_neg (by omega), if_neg h, show p - 1 + 1 = p + 1 - 1 by omega]
theorem less_hit {L : List Int} {p : Nat} (hp : 1 ≤ p) : hit (less d w) L p = hit w L (up d p) := by
  unfold hit
  rw [less_get h1 hd hp]
theorem up_end : up d ((less d w).length + 1) = w.length + 1 := by
  have := less_len h1 hd
  unfold up
  rw [if_neg (by omega)]
  omega
end
theorem up_lt {d i j : Nat} (h : i < j) : up d i < up d j := by
  unfold up
  split <;> split <;> omega
theorem up_zero {d : Nat} (h : 1 ≤ d) : up d 0 = 0 := by
  unfold up
  rw [if_pos (by omega)]
theorem up_inv {d p : Nat} (h : p ≠ d) : ∃ q, up d q = p := by
  unfold up
  by_cases hp : p < d
  · exact ⟨p, if_pos hp⟩
  · exact ⟨p - 1, by rw [if_neg (by omega)]; omega⟩
theorem up_lt_iff {d i j : Nat} : up d i < up d j ↔ i < j := by
  unfold up
  split <;> split <;> omega
theorem next_some {w : Tx} {L : List Int} {p q : Nat} : nextIn w L p = some q ↔ (p < q ∧ q ≤ w.length ∧ hit w L q = true) ∧ ∀ x, p < x → x < q → hit w L x = false := by
  unfold nextIn cand
  rw [List.head?_filter, List.find?_range'_eq_some]
  constructor
  · rintro ⟨a, b, c⟩
    rw [List.mem_range'_1] at b
    exact ⟨⟨by omega, by omega, a⟩, fun x hx hx2 => by simpa using c x (by omega) hx2⟩
  · rintro ⟨⟨a, b, c⟩, e⟩
    refine ⟨c, List.mem_range'_1.mpr ⟨by omega, by omega⟩, fun x hx hx2 => by simpa using e x (by omega) hx2⟩
theorem next_none {w : Tx} {L : List Int} {p : Nat} : nextIn w L p = none ↔ ∀ x, p < x → x ≤ w.length → hit w L x = false := by
  unfold nextIn cand
  rw [List.head?_filter, List.find?_eq_none]
  constructor
  · intro h x hx hx2
    simpa using h x (List.mem_range'_1.mpr ⟨by omega, by omega⟩)
  · intro h x hx
    have := List.mem_range'_1.mp hx
    simpa using h x (by omega) (by omega)
theorem last_zero (w : Tx) (L : List Int) : lastIn w L 0 = 0 := rfl
theorem last_one (w : Tx) (L : List Int) : lastIn w L 1 = 0 := rfl
theorem last_succ (w : Tx) (L : List Int) (p : Nat) : lastIn w L (p + 2) = if hit w L (p + 1) then p + 1 else lastIn w L (p + 1) := by
  unfold lastIn
  rw [show p + 2 - 1 = p + 1 by omega, show p + 1 - 1 = p by omega, cand_succ, Nat.add_comm 1 p]
  by_cases h : hit w L (p + 1) = true
  · simp [h]
  · simp [h]
theorem last_is {w : Tx} {L : List Int} : ∀ (p q : Nat), lastIn w L p = q ↔ (q = 0 ∧ ∀ x, 1 ≤ x → x < p → hit w L x = false) ∨ ((1 ≤ q ∧ q < p ∧ hit w L q = true) ∧ ∀ x, q < x → x < p → hit w L x = false)
  | 0, q => by
    rw [last_zero]
    constructor
    · rintro rfl; exact .inl ⟨rfl, fun x _ h => by omega⟩
    · rintro (h | h)
      · exact h.1.symm
      · omega
  | 1, q => by
    rw [last_one]
    constructor
    · rintro rfl; exact .inl ⟨rfl, fun x h0 h => by omega⟩
    · rintro (h | h)
      · exact h.1.symm
      · omega
  | p + 2, q => by
    rw [last_succ]
    by_cases h : hit w L (p + 1) = true
    · rw [if_pos h]
      constructor
      · rintro rfl; exact .inr ⟨⟨by omega, by omega, h⟩, fun x a b => by omega⟩
      · rintro (⟨_, c⟩ | ⟨⟨a, b, c⟩, e⟩)
        · have := c (p + 1) (by omega) (by omega); rw [h] at this; cases this
        · rcases Nat.lt_or_ge q (p + 1) with z | z
          · have := e (p + 1) z (by omega); rw [h] at this; cases this
          · omega
    · rw [if_neg h, last_is (p + 1) q]
      have h' : hit w L (p + 1) = false := by cases hh : hit w L (p + 1) with | true => exact absurd hh h | false => rfl
      constructor
      · rintro (⟨a, c⟩ | ⟨⟨a, b, c⟩, e⟩)
        · exact .inl ⟨a, fun x x1 x2 => by
            by_cases z : x = p + 1
            · rw [z]; exact h'
            · exact c x x1 (by omega)⟩
        · exact .inr ⟨⟨a, by omega, c⟩, fun x x1 x2 => by
            by_cases z : x = p + 1
            · rw [z]; exact h'
            · exact e x x1 (by omega)⟩
      · rintro (⟨a, c⟩ | ⟨⟨a, b, c⟩, e⟩)
        · exact .inl ⟨a, fun x x1 x2 => c x x1 (by omega)⟩
        · refine .inr ⟨⟨a, ?_, c⟩, fun x x1 x2 => e x x1 (by omega)⟩
          by_cases z : q = p + 1
          · rw [z] at c; exact absurd c h
          · omega
section
variable {w : Tx} {d : Nat} (h1 : 1 ≤ d) (hd : d ≤ w.length)
include h1 hd
theorem less_next {L : List Int} {p : Nat} (hn : nextIn w L (up d p) ≠ some d) : nextIn w L (up d p) = (nextIn (less d w) L p).map (up d) := by
  have hl := less_len h1 hd
  cases h : nextIn (less d w) L p with
  | none =>
    rw [next_none] at h
    cases hw : nextIn w L (up d p) with
    | none => rfl
    | some q =>
      rw [hw] at hn
      rw [next_some] at hw
      obtain ⟨⟨a, b, c⟩, _⟩ := hw
      obtain ⟨q', hq'⟩ := up_inv (d := d) (p := q) (fun z => hn (by rw [z]))
      rw [← hq'] at a b c
      have a' := up_lt_iff.mp a
      have b' : q' ≤ (less d w).length := by
        have : up d q' < up d ((less d w).length + 1) := by rw [up_end h1 hd]; omega
        have := up_lt_iff.mp this
        omega
      have := h q' a' b'
      rw [less_hit h1 hd (by omega), c] at this
      cases this
  | some q =>
    rw [next_some] at h
    obtain ⟨⟨a, b, c⟩, e⟩ := h
    show nextIn w L (up d p) = some (up d q)
    cases hw : nextIn w L (up d p) with
    | none =>
      rw [next_none] at hw
      have := hw (up d q) (up_lt a) (by
        have : up d q < up d ((less d w).length + 1) := up_lt (by omega)
        rw [up_end h1 hd] at this
        omega)
      rw [less_hit h1 hd (by omega), this] at c
      cases c
    | some r =>
      rw [hw] at hn
      rw [next_some] at hw
      obtain ⟨⟨a', b', c'⟩, e'⟩ := hw
      obtain ⟨r', hr'⟩ := up_inv (d := d) (p := r) (fun z => hn (by rw [z]))
      rw [← hr'] at a' b' c' e' ⊢
      have a2 := up_lt_iff.mp a'
      rcases Nat.lt_trichotomy r' q with z | z | z
      · have := e r' a2 z
        rw [less_hit h1 hd (by omega), c'] at this
        cases this
      · rw [z]
      · have := e' (up d q) (up_lt a) (up_lt z)
        rw [less_hit h1 hd (by omega), this] at c
        cases c
theorem less_last {L : List Int} {p : Nat} (hn : lastIn w L (up d p) ≠ d) : lastIn w L (up d p) = up d (lastIn (less d w) L p) := by
  obtain ⟨r, hr⟩ := up_inv (d := d) hn
  have hw := (last_is (w := w) (L := L) (up d p) (up d r)).mp hr.symm
  have e : lastIn (less d w) L p = r := by
    rw [last_is]
    rcases hw with ⟨a, c⟩ | ⟨⟨a, b, c⟩, e⟩
    · refine .inl ⟨?_, fun x x1 x2 => ?_⟩
      · rcases Nat.eq_zero_or_pos r with z | z
        · exact z
        · have := up_lt (d := d) z
          omega
      · rw [less_hit h1 hd x1]
        refine c _ ?_ (up_lt x2)
        have := up_lt (d := d) (i := 0) (j := x) (by omega)
        omega
    · have hr1 : 1 ≤ r := by
        rcases Nat.eq_zero_or_pos r with z | z
        · rw [z, up_zero h1] at a; omega
        · exact z
      refine .inr ⟨⟨hr1, up_lt_iff.mp b, by rw [less_hit h1 hd hr1]; exact c⟩, fun x x1 x2 => ?_⟩
      rw [less_hit h1 hd (by omega)]
      exact e _ (up_lt x1) (up_lt x2)
  rw [e, hr]
end
/-- what a run finds on its way -/
def vis (w : Tx) : List Pr → Nat → List Nat
  | [], _ => []
  | (true, L) :: r, p => match nextIn w L p with
    | some q => q :: vis w r q
    | none => []
  | (false, L) :: r, p => lastIn w L p :: vis w r (lastIn w L p)
theorem vis_len (w : Tx) : ∀ (r : List Pr) (p : Nat), (vis w r p).length ≤ r.length
  | [], _ => Nat.le_refl _
  | (true, L) :: r, p => by
    rw [vis]
    cases nextIn w L p with
    | none => exact Nat.zero_le _
    | some q => simp; exact vis_len w r q
  | (false, L) :: r, p => by
    rw [vis]
    simp
    exact vis_len w r _
def visG (w : Tx) : List Pr → Nat → List Nat
  | [], _ => []
  | pr :: r, p => ask w pr p :: visG w r (ask w pr p)
theorem visG_len (w : Tx) : ∀ (r : List Pr) (p : Nat), (visG w r p).length = r.length
  | [], _ => rfl
  | pr :: r, p => by rw [visG, List.length_cons, List.length_cons, visG_len w r]
section
variable {w : Tx} {d : Nat} (h1 : 1 ≤ d) (hd : d ≤ w.length)
include h1 hd
theorem less_run : ∀ (r : List Pr) (j p : Nat), d ∉ vis w r (up d p) → run w r j (up d p) = mapE (up d) (run (less d w) r j p)
  | [], _, _, _ => rfl
  | (true, L) :: r, j, p, hv => by
    rw [vis] at hv
    rw [run, run]
    have hn : nextIn w L (up d p) ≠ some d := fun z => by rw [z] at hv; exact hv List.mem_cons_self
    have e := less_next h1 hd hn
    rw [e] at hv ⊢
    cases h : nextIn (less d w) L p with
    | none => rfl
    | some q =>
      rw [h] at hv
      exact less_run r (j + 1) q fun z => hv (List.mem_cons_of_mem _ z)
  | (false, L) :: r, j, p, hv => by
    rw [vis] at hv
    rw [run, run]
    have e := less_last h1 hd (L := L) (p := p) fun z => hv (by rw [z]; exact List.mem_cons_self)
    rw [e] at hv ⊢
    exact less_run r (j + 1) _ fun z => hv (List.mem_cons_of_mem _ z)
theorem less_goes : ∀ (r : List Pr) (p : Nat), d ∉ visG w r (up d p) → goes w r (up d p) = up d (goes (less d w) r p)
  | [], _, _ => rfl
  | (b, L) :: r, p, hv => by
    rw [visG] at hv
    rw [goes, goes]
    have e : ask w (b, L) (up d p) = up d (ask (less d w) (b, L) p) := by
      have hn : ask w (b, L) (up d p) ≠ d := fun z => hv (by rw [z]; exact List.mem_cons_self)
      unfold ask at hn ⊢
      cases b with
      | false => exact less_last h1 hd hn
      | true =>
        simp only [if_true] at hn ⊢
        rw [less_next h1 hd fun z => hn (by rw [z]; rfl)]
        cases nextIn (less d w) L p with
        | none => exact (up_end h1 hd).symm
        | some q => rfl
    rw [e] at hv ⊢
    exact less_goes r _ fun z => hv (List.mem_cons_of_mem _ z)
end
/-- all that the runs of a row find -/
def visR (N : Nm) (w : Tx) : List Nat := ((List.range N.length).map fun i => if side N i then [] else vis w (N.drop i) (w.length + 1)).flatten ++ (if side N 0 then vis w N 0 else [])
def cost (m : Nat) : Nat := m * (m + 3) / 2
theorem cost_succ (m : Nat) : cost (m + 1) = cost m + m + 2 := by
  unfold cost
  have e : (m + 1) * (m + 1 + 3) = m * (m + 3) + m + (m + 4) := by
    rw [Nat.add_mul, Nat.one_mul, show m + 1 + 3 = (m + 3) + 1 by omega, Nat.mul_add m (m + 3) 1, Nat.mul_one]
  rw [e]
  omega
theorem sum_drop (f : Nat → List Nat) (m : Nat) (hf : ∀ i, i < m → (f i).length ≤ m - i) : (((List.range m).map f).flatten).length + m ≤ cost m := by
  have h : ∀ n, n ≤ m → (((List.range n).map f).flatten).length + cost (m - n) + (m) ≤ cost m + (m - n) := by
    intro n
    induction n with
    | zero => intro _; simp
    | succ n ih =>
      intro hn
      have a := ih (by omega)
      have b := hf n (by omega)
      have c := cost_succ (m - (n + 1))
      rw [show m - (n + 1) + 1 = m - n by omega] at c
      rw [List.range_succ, List.map_append, List.flatten_append, List.length_append]
      simp only [List.map_cons, List.map_nil, List.flatten_cons, List.flatten_nil, List.append_nil]
      omega
  have := h m (Nat.le_refl _)
  rw [Nat.sub_self] at this
  have e0 : cost 0 = 0 := rfl
  omega
theorem visR_len (N : Nm) (w : Tx) : (visR N w).length ≤ cost N.length := by
  unfold visR
  rw [List.length_append]
  have a := sum_drop (fun i => if side N i then [] else vis w (N.drop i) (w.length + 1)) N.length (fun i hi => by
    by_cases h : side N i = true
    · rw [if_pos h]; exact Nat.zero_le _
    · rw [if_neg h]
      have := vis_len w (N.drop i) (w.length + 1)
      rw [List.length_drop] at this
      exact this)
  have b : (if side N 0 then vis w N 0 else []).length ≤ N.length := by
    by_cases h : side N 0 = true
    · rw [if_pos h]; exact vis_len w N 0
    · rw [if_neg h]; exact Nat.zero_le _
  omega
section
variable {w : Tx} {d : Nat} (h1 : 1 ≤ d) (hd : d ≤ w.length)
include h1 hd
theorem less_sem (N : Nm) (hv : d ∉ visR N w) : sem N w = mapR (up d) (sem N (less d w)) := by
  unfold sem mapR
  rw [List.map_map]
  refine List.map_congr_left fun i hi => ?_
  have hi := List.mem_range.mp hi
  show semAt N w i = (semAt N (less d w) i).map (mapE (up d))
  unfold visR at hv
  rw [List.mem_append, not_or] at hv
  unfold semAt
  by_cases h : i < N.length
  · rw [if_pos h, if_pos h]
    by_cases hs : side N i = true
    · rw [if_pos hs, if_pos hs]; rfl
    · rw [if_neg hs, if_neg hs]
      have e := less_run h1 hd (N.drop i) i ((less d w).length + 1) (by
        rw [up_end h1 hd]
        intro z
        refine hv.1 (List.mem_flatten.mpr ⟨_, List.mem_map.mpr ⟨i, List.mem_range.mpr h, rfl⟩, ?_⟩)
        rw [if_neg hs]
        exact z)
      rw [up_end h1 hd] at e
      rw [e]
      rfl
  · rw [if_neg h, if_neg h]
    by_cases hs : side N 0 = true
    · rw [if_pos hs, if_pos hs]
      have e := less_run h1 hd N 0 0 (by
        rw [up_zero h1]
        intro z
        refine hv.2 ?_
        rw [if_pos hs]
        exact z)
      rw [up_zero h1] at e
      rw [e]
      rfl
    · rw [if_neg hs, if_neg hs]; rfl
theorem less_form (Ns : List Nm) (hN : ∀ N ∈ Ns, N ≠ []) (hv : ∀ N ∈ Ns, d ∉ visR N w) : form Ns w = form Ns (less d w) := by
  unfold form
  have e : rowsOf Ns w = (rowsOf Ns (less d w)).map (mapR (up d)) := by
    unfold rowsOf
    rw [List.map_map]
    refine List.map_congr_left fun N hm => ?_
    show rowOf N w = mapR (up d) (rowOf N (less d w))
    rw [rowOf_sem N (hN N hm), rowOf_sem N (hN N hm)]
    exact less_sem h1 hd N (hv N hm)
  rw [e]
  exact formOf_same (up_zero h1) (fun i j _ _ h => up_lt h) fun p _ hp => (less_get h1 hd hp).symm
theorem less_vr (Ns : List Nm) (hv : ∀ N ∈ Ns, d ∉ visG w N (begP N w)) : VR Ns w (less d w) := by
  have e : ∀ N ∈ Ns, named N w = up d (named N (less d w)) := fun N hm => by
    have hs : begP N w = up d (begP N (less d w)) := by
      unfold begP
      by_cases h : (N.headD (false, [])).1 = true
      · rw [if_pos h, if_pos h, up_zero h1]
      · rw [if_neg h, if_neg h, up_end h1 hd]
    unfold named
    have := hv N hm
    rw [hs] at this ⊢
    exact less_goes h1 hd N _ this
  refine ⟨fun N1 m1 N2 m2 => ?_, fun N m => ?_⟩
  · rw [e N1 m1, e N2 m2, up_lt_iff]
  · rw [e N m]
    unfold stand
    have hl := less_len h1 hd
    have he := up_end h1 hd
    by_cases z : named N (less d w) = 0
    · rw [z, up_zero h1, if_pos rfl, if_pos rfl]
    · have a := up_lt (d := d) (i := 0) (j := named N (less d w)) (by omega)
      rw [up_zero h1] at a
      rw [if_neg (by omega), if_neg z]
      by_cases b : (less d w).length < named N (less d w)
      · have b' : w.length < up d (named N (less d w)) := by
          rcases Nat.lt_or_ge ((less d w).length + 1) (named N (less d w)) with c | c
          · have := up_lt (d := d) c; omega
          · rw [show named N (less d w) = (less d w).length + 1 by omega]; omega
        rw [if_pos b, if_pos b']
      · have b' := up_lt (d := d) (i := named N (less d w)) (j := (less d w).length + 1) (by omega)
        rw [if_neg b, if_neg (by omega), less_get h1 hd (by omega)]
end
/-- of more places than numbers one is left out -/
theorem left_out : ∀ (l : List Nat) (n : Nat), l.length < n → ∃ d, 1 ≤ d ∧ d ≤ n ∧ d ∉ l
  | [], n, h => ⟨1, Nat.le_refl _, h, by simp⟩
  | a :: l, n, h => by
    rw [List.length_cons] at h
    by_cases ha : 1 ≤ a ∧ a ≤ n
    · obtain ⟨d, d1, d2, d3⟩ := left_out (l.map fun x => if a < x then x - 1 else x) (n - 1) (by rw [List.length_map]; omega)
      refine ⟨if d < a then d else d + 1, by split <;> omega, by split <;> omega, fun z => ?_⟩
      rcases List.mem_cons.mp z with e | e
      · split at e <;> omega
      · refine d3 (List.mem_map.mpr ⟨_, e, ?_⟩)
        by_cases c : d < a
        · rw [if_pos c, if_neg (by omega)]
        · rw [if_neg c, if_pos (by omega)]; omega
    · obtain ⟨d, d1, d2, d3⟩ := left_out l n (by omega)
      exact ⟨d, d1, d2, fun z => by
        rcases List.mem_cons.mp z with e | e
        · omega
        · exact d3 e⟩
def costs (Ns : List Nm) : Nat := (Ns.map fun N => cost N.length).sum
def pairs (Ns : List Nm) : Nat := (Ns.map fun N => N.length).sum
theorem flat_len {α : Type} (f : α → List Nat) (c : α → Nat) : ∀ (l : List α), (∀ x ∈ l, (f x).length ≤ c x) → ((l.map f).flatten).length ≤ (l.map c).sum
  | [], _ => Nat.le_refl _
  | a :: l, h => by
    rw [List.map_cons, List.flatten_cons, List.length_append, List.map_cons, List.sum_cons]
    have := h a List.mem_cons_self
    have := flat_len f c l fun x hx => h x (List.mem_cons_of_mem _ hx)
    omega
theorem mem_less {d : Nat} {w : Tx} {a : Int} (h : a ∈ less d w) : a ∈ w := List.mem_of_mem_eraseIdx h
/-- a long text has a shorter one of its form -/
theorem form_less (Ns : List Nm) (hN : ∀ N ∈ Ns, N ≠ []) (w : Tx) (h : costs Ns < w.length) : ∃ v : Tx, v.length < w.length ∧ (∀ a ∈ v, a ∈ w) ∧ form Ns w = form Ns v := by
  have hl := flat_len (fun N => visR N w) (fun N => cost N.length) Ns fun N _ => visR_len N w
  obtain ⟨d, d1, d2, d3⟩ := left_out ((Ns.map fun N => visR N w).flatten) w.length (Nat.lt_of_le_of_lt hl h)
  refine ⟨less d w, by have := less_len d1 d2; omega, fun a ha => mem_less ha, less_form d1 d2 Ns hN fun N hm z => d3 (List.mem_flatten.mpr ⟨_, List.mem_map.mpr ⟨N, hm, rfl⟩, z⟩)⟩
theorem vr_less (Ns : List Nm) (w : Tx) (h : pairs Ns < w.length) : ∃ v : Tx, v.length < w.length ∧ (∀ a ∈ v, a ∈ w) ∧ VR Ns w v := by
  have hl := flat_len (fun N => visG w N (begP N w)) (fun N => N.length) Ns fun N _ => Nat.le_of_eq (visG_len w N _)
  obtain ⟨d, d1, d2, d3⟩ := left_out ((Ns.map fun N => visG w N (begP N w)).flatten) w.length (Nat.lt_of_le_of_lt hl h)
  refine ⟨less d w, by have := less_len d1 d2; omega, fun a ha => mem_less ha, less_vr d1 d2 Ns fun N hm z => d3 (List.mem_flatten.mpr ⟨_, List.mem_map.mpr ⟨N, hm, rfl⟩, z⟩)⟩
/-- each text is seen as a little one -/
theorem vr_little (Ns : List Nm) : ∀ (n : Nat) (w : Tx), w.length = n → ∃ v : Tx, v.length ≤ pairs Ns ∧ (v = w ∨ v.length < w.length) ∧ (∀ a ∈ v, a ∈ w) ∧ VR Ns w v := by
  intro n
  induction n using Nat.strongRecOn with
  | ind n ih =>
    intro w hw
    by_cases h : pairs Ns < w.length
    · obtain ⟨v, v1, v2, v3⟩ := vr_less Ns w h
      obtain ⟨u, u1, u2, u3, u4⟩ := ih v.length (by omega) v rfl
      refine ⟨u, u1, .inr ?_, fun a ha => v2 a (u3 a ha), v3.trans u4⟩
      rcases u2 with e | e
      · rw [e]; exact v1
      · omega
    · exact ⟨w, by omega, .inl rfl, fun a ha => ha, VR.refl _ _⟩
end Nx
/-! the mathematics, 4: the order of texts, the search through the forms, the little texts -/
namespace Nx
def okT (W : Nat) (w : Tx) : Prop := ∀ a ∈ w, 1 ≤ a ∧ a ≤ (W : Int)
def rank (W : Nat) (w : Tx) : Nat := w.foldl (fun r a => W * r + a.toNat) 0
theorem rank_snoc (W : Nat) (w : Tx) (a : Int) : rank W (w ++ [a]) = W * rank W w + a.toNat := by
  unfold rank
  rw [List.foldl_append]
  rfl
theorem okT_snoc {W : Nat} {w : Tx} {a : Int} : okT W (w ++ [a]) ↔ okT W w ∧ 1 ≤ a ∧ a ≤ (W : Int) := by
  unfold okT
  constructor
  · intro h
    exact ⟨fun x hx => h x (List.mem_append_left _ hx), h a (by simp)⟩
  · rintro ⟨h1, h2⟩ x hx
    rcases List.mem_append.mp hx with e | e
    · exact h1 x e
    · rw [List.mem_singleton.mp e]; exact h2
theorem okT_nil (W : Nat) : okT W [] := fun a h => by cases h
theorem okT_sub {W : Nat} {v w : Tx} (h : okT W w) (hs : ∀ a ∈ v, a ∈ w) : okT W v := fun a ha => h a (hs a ha)
theorem snoc_cases (w : Tx) : w = [] ∨ ∃ v a, w = v ++ [a] := by
  by_cases h : w = []
  · exact .inl h
  · exact .inr ⟨w.dropLast, w.getLast h, (List.dropLast_concat_getLast h).symm⟩
theorem mul_succ_le {W a b : Nat} (h : a < b) : W * a + W ≤ W * b := by
  have := Nat.mul_le_mul_left W (show a + 1 ≤ b from h)
  rw [Nat.mul_add, Nat.mul_one] at this
  exact this
theorem rank_short {W : Nat} : ∀ (n : Nat) (x y : Tx), y.length = n → okT W x → okT W y → x.length < y.length → rank W x < rank W y
  | 0, x, y, hn, _, _, h => by omega
  | n + 1, x, y, hn, hx, hy, h => by
    rcases snoc_cases y with rfl | ⟨y', b, rfl⟩
    · simp at hn
    · have hy' := okT_snoc.mp hy
      rw [List.length_append, List.length_singleton] at hn h
      rw [rank_snoc]
      rcases snoc_cases x with rfl | ⟨x', a, rfl⟩
      · show 0 < _
        omega
      · have hx' := okT_snoc.mp hx
        rw [List.length_append, List.length_singleton] at h
        have ih := rank_short n x' y' (by omega) hx'.1 hy'.1 (by omega)
        have := mul_succ_le (W := W) ih
        rw [rank_snoc]
        omega
theorem rank_inj {W : Nat} : ∀ (n : Nat) (x y : Tx), x.length = n → okT W x → okT W y → rank W x = rank W y → x = y := by
  intro n
  induction n with
  | zero =>
    intro x y hn hx hy h
    rcases Nat.lt_trichotomy x.length y.length with c | c | c
    · have := rank_short _ x y rfl hx hy c; omega
    · rw [List.length_eq_zero_iff.mp hn, List.length_eq_zero_iff.mp (show y.length = 0 by omega)]
    · omega
  | succ n ih =>
    intro x y hn hx hy h
    rcases Nat.lt_trichotomy x.length y.length with c | c | c
    · have := rank_short _ x y rfl hx hy c; omega
    · rcases snoc_cases x with rfl | ⟨x', a, rfl⟩
      · simp at hn
      · rcases snoc_cases y with rfl | ⟨y', b, rfl⟩
        · simp at c
        · have hx' := okT_snoc.mp hx
          have hy' := okT_snoc.mp hy
          rw [List.length_append, List.length_singleton] at hn
          rw [rank_snoc, rank_snoc] at h
          have e : rank W x' = rank W y' := by
            rcases Nat.lt_trichotomy (rank W x') (rank W y') with z | z | z
            · have := mul_succ_le (W := W) z; omega
            · exact z
            · have := mul_succ_le (W := W) z; omega
          rw [e] at h
          rw [ih x' y' (by omega) hx'.1 hy'.1 e, show a = b by omega]
    · have := rank_short _ y x rfl hy hx c; omega
theorem rank_le {W : Nat} (hW : 2 ≤ W) : ∀ (n : Nat) (x : Tx), okT W x → x.length ≤ n → rank W x + 2 ≤ 2 * W ^ n
  | 0, x, hx, h => by
    rw [List.length_eq_zero_iff.mp (Nat.le_zero.mp h)]
    show 0 + 2 ≤ 2 * 1
    omega
  | n + 1, x, hx, h => by
    have hp : 1 ≤ W ^ n := Nat.one_le_pow _ _ (by omega)
    have hpw : 2 * W ^ (n + 1) = W * (2 * W ^ n) := by rw [Nat.pow_succ, Nat.mul_comm (W ^ n) W, ← Nat.mul_assoc, Nat.mul_comm 2 W, Nat.mul_assoc]
    rcases snoc_cases x with rfl | ⟨x', a, rfl⟩
    · show 0 + 2 ≤ _
      have : 1 * 1 ≤ W ^ (n + 1) := Nat.one_le_pow _ _ (by omega)
      omega
    · have hx' := okT_snoc.mp hx
      rw [List.length_append, List.length_singleton] at h
      have ih := rank_le hW n x' hx'.1 (by omega)
      have := Nat.mul_le_mul_left W ih
      rw [rank_snoc, hpw]
      rw [Nat.mul_add] at this
      omega
theorem asc_len : ∀ (l : List Nat) (b n : Nat), l.Pairwise (· < ·) → (∀ x ∈ l, b ≤ x ∧ x < n) → b ≤ n → l.length + b ≤ n
  | [], b, n, _, _, h => by simpa using h
  | a :: l, b, n, hp, hx, h => by
    rw [List.pairwise_cons] at hp
    have ha := hx a List.mem_cons_self
    have := asc_len l (a + 1) n hp.2 (fun x m => ⟨hp.1 x m, (hx x (List.mem_cons_of_mem _ m)).2⟩) ha.2
    rw [List.length_cons]
    omega

/-! ### the search -/
structure Bf (W : Nat) (Ns : List Nm) (ts : List Tx) (t a : Nat) : Prop where
  first : ts[0]? = some []
  ok : ∀ x ∈ ts, okT W x
  asc : ts.Pairwise fun x y => rank W x < rank W y
  cl : ∀ (j : Nat) (x : Tx), ts[j]? = some x → ∀ b : Nat, 1 ≤ b → b ≤ W → (j < t ∨ (j = t ∧ b < a)) → ∃ y ∈ ts, form Ns y = form Ns (x ++ [(b : Int)]) ∧ rank W y ≤ rank W (x ++ [(b : Int)])
  top : ∀ v, ts[t]? = some v → ∀ x ∈ ts, rank W x < W * rank W v + a
  sh : ∀ x ∈ ts, x.length ≤ costs Ns
section
variable {W : Nat} {Ns : List Nm} {ts : List Tx} {t a : Nat}
theorem Bf.init (W : Nat) (Ns : List Nm) : Bf W Ns [[]] 0 1 where
  first := rfl
  ok := fun x hx => by rw [List.mem_singleton.mp hx]; exact okT_nil W
  asc := List.pairwise_singleton _ _
  cl := fun j x hx b b1 b2 h => by omega
  top := fun v hv x hx => by
    rw [List.mem_singleton.mp hx]
    show 0 < _
    omega
  sh := fun x hx => by rw [List.mem_singleton.mp hx]; exact Nat.zero_le _
theorem int_letter {W : Nat} {b : Int} (h : 1 ≤ b ∧ b ≤ (W : Int)) : ∃ n : Nat, b = (n : Int) ∧ 1 ≤ n ∧ n ≤ W := ⟨b.toNat, by omega, by omega, by omega⟩
/-- what lies ahead of the text at hand has come -/
theorem Bf.rep (B : Bf W Ns ts t a) (hN : ∀ N ∈ Ns, N ≠ []) (ha : a ≤ W + 1) {v : Tx} (hv : ts[t]? = some v) (u : Tx) : okT W u → rank W u < W * rank W v + a → ∃ y ∈ ts, form Ns y = form Ns u ∧ rank W y ≤ rank W u := by
  induction u using snoc_ind with
  | h0 => intro _ _; exact ⟨[], List.mem_of_getElem? B.first, rfl, Nat.le_refl _⟩
  | hs x b ih =>
    intro hu hr
    have hx := okT_snoc.mp hu
    obtain ⟨n, rfl, n1, n2⟩ := int_letter hx.2
    rw [rank_snoc, show ((n : Int)).toNat = n by omega] at hr
    have hWx : rank W x ≤ W * rank W x := by
      have := Nat.mul_le_mul_right (rank W x) (show 1 ≤ W by omega)
      omega
    obtain ⟨y, hy, e1, e2⟩ := ih hx.1 (by omega)
    obtain ⟨j, hj⟩ := List.getElem?_of_mem hy
    have hxy := Nat.mul_le_mul_left W e2
    have hjt : j < t ∨ (j = t ∧ n < a) := by
      rcases Nat.lt_trichotomy j t with c | c | c
      · exact .inl c
      · refine .inr ⟨c, ?_⟩
        rw [c, hv] at hj
        rw [Option.some.inj hj] at hr
        omega
      · obtain ⟨ht, e3⟩ := List.getElem?_eq_some_iff.mp hv
        obtain ⟨hj', e4⟩ := List.getElem?_eq_some_iff.mp hj
        have := List.pairwise_iff_getElem.mp B.asc t j ht hj' c
        rw [e3, e4] at this
        have := mul_succ_le (W := W) this
        omega
    obtain ⟨z, hz, f1, f2⟩ := B.cl j y hj n n1 n2 hjt
    refine ⟨z, hz, f1.trans (form_next hN e1 _), Nat.le_trans f2 ?_⟩
    rw [rank_snoc, rank_snoc]
    omega
theorem Bf.old (B : Bf W Ns ts t a) {v : Tx} (hv : ts[t]? = some v) (h : form Ns (v ++ [(a : Int)]) ∈ ts.map (form Ns)) : Bf W Ns ts t (a + 1) where
  first := B.first
  ok := B.ok
  asc := B.asc
  cl := fun j x hx b b1 b2 hj => by
    by_cases hc : j < t ∨ (j = t ∧ b < a)
    · exact B.cl j x hx b b1 b2 hc
    · have hjt : j = t ∧ b = a := by omega
      rw [hjt.1, hv] at hx
      rw [← Option.some.inj hx, hjt.2]
      obtain ⟨y, hy, e⟩ := List.mem_map.mp h
      refine ⟨y, hy, e, ?_⟩
      have := B.top v hv y hy
      rw [rank_snoc, show ((a : Int)).toNat = a by omega]
      omega
  top := fun v hv x hx => Nat.lt_succ_of_lt (B.top v hv x hx)
  sh := B.sh
theorem Bf.new (B : Bf W Ns ts t a) (hN : ∀ N ∈ Ns, N ≠ []) (a1 : 1 ≤ a) (a2 : a ≤ W) {v : Tx} (hv : ts[t]? = some v) (h : form Ns (v ++ [(a : Int)]) ∉ ts.map (form Ns)) : Bf W Ns (ts ++ [v ++ [(a : Int)]]) t (a + 1) := by
  have hvm := List.mem_of_getElem? hv
  have hva : okT W (v ++ [(a : Int)]) := okT_snoc.mpr ⟨B.ok v hvm, by omega, by omega⟩
  have hr : rank W (v ++ [(a : Int)]) = W * rank W v + a := by rw [rank_snoc, show ((a : Int)).toNat = a by omega]
  have hlt : ∀ {j : Nat} {x : Tx}, (ts ++ [v ++ [(a : Int)]])[j]? = some x → j ≤ t → ts[j]? = some x := fun {j x} hx hj => by
    have ht := (List.getElem?_eq_some_iff.mp hv).1
    rw [List.getElem?_append_left (by omega)] at hx
    exact hx
  refine ⟨?_, fun x hx => ?_, ?_, fun j x hx b b1 b2 hj => ?_, fun v' hv' x hx => ?_, fun x hx => ?_⟩
  · have h0 := (List.getElem?_eq_some_iff.mp B.first).1
    rw [List.getElem?_append_left h0]
    exact B.first
  · rcases List.mem_append.mp hx with e | e
    · exact B.ok x e
    · rw [List.mem_singleton.mp e]; exact hva
  · rw [List.pairwise_append]
    refine ⟨B.asc, List.pairwise_singleton _ _, fun x hx y hy => ?_⟩
    rw [List.mem_singleton.mp hy, hr]
    exact B.top v hv x hx
  · have hx' := hlt hx (by omega)
    by_cases hc : j < t ∨ (j = t ∧ b < a)
    · obtain ⟨y, hy, e⟩ := B.cl j x hx' b b1 b2 hc
      exact ⟨y, List.mem_append_left _ hy, e⟩
    · have hjt : j = t ∧ b = a := by omega
      rw [hjt.1, hv] at hx'
      rw [← Option.some.inj hx', hjt.2]
      exact ⟨_, List.mem_append_right _ (List.mem_singleton.mpr rfl), rfl, Nat.le_refl _⟩
  · have e := hlt hv' (Nat.le_refl _)
    rw [hv] at e
    rw [← Option.some.inj e]
    rcases List.mem_append.mp hx with c | c
    · exact Nat.lt_succ_of_lt (B.top v hv x c)
    · rw [List.mem_singleton.mp c, hr]
      omega
  · rcases List.mem_append.mp hx with e | e
    · exact B.sh x e
    · rw [List.mem_singleton.mp e]
      rcases Nat.lt_or_ge (costs Ns) (v ++ [(a : Int)]).length with c | c
      · obtain ⟨z, z1, z2, z3⟩ := form_less Ns hN _ c
        have hz := okT_sub hva z2
        have := rank_short _ z _ rfl hz hva z1
        obtain ⟨y, hy, e1, _⟩ := B.rep hN (by omega) hv z hz (by omega)
        exact absurd (List.mem_map.mpr ⟨y, hy, e1.trans z3.symm⟩) h
      · exact c
theorem Bf.turn (B : Bf W Ns ts t (W + 1)) {v : Tx} (hv : ts[t]? = some v) : Bf W Ns ts (t + 1) 1 where
  first := B.first
  ok := B.ok
  asc := B.asc
  cl := fun j x hx b b1 b2 hj => B.cl j x hx b b1 b2 (by omega)
  top := fun v' hv' x hx => by
    obtain ⟨ht, e3⟩ := List.getElem?_eq_some_iff.mp hv
    obtain ⟨hj', e4⟩ := List.getElem?_eq_some_iff.mp hv'
    have := List.pairwise_iff_getElem.mp B.asc t (t + 1) ht hj' (by omega)
    rw [e3, e4] at this
    have := mul_succ_le (W := W) this
    have := B.top v hv x hx
    omega
  sh := B.sh
theorem Bf.size (B : Bf W Ns ts t a) (hW : 2 ≤ W) : ts.length < 2 * W ^ costs Ns := by
  have h := asc_len (ts.map (rank W)) 0 (2 * W ^ costs Ns - 1) (by rw [List.pairwise_map]; exact B.asc) (fun x hx => by
    obtain ⟨y, hy, e⟩ := List.mem_map.mp hx
    have := rank_le hW _ y (B.ok y hy) (B.sh y hy)
    omega) (Nat.zero_le _)
  have hp : 1 ≤ W ^ costs Ns := Nat.one_le_pow _ _ (by omega)
  rw [List.length_map] at h
  omega
end
/-- what told_by_texts tells -/
structure Told (W : Nat) (Ns : List Nm) (ts : List Tx) : Prop where
  first : ts[0]? = some []
  ok : ∀ x ∈ ts, okT W x
  asc : ts.Pairwise fun x y => rank W x < rank W y
  rep : ∀ u, okT W u → ∃ y ∈ ts, VR Ns u y ∧ rank W y ≤ rank W u
theorem Bf.done {W : Nat} {Ns : List Nm} {ts : List Tx} {t a : Nat} (B : Bf W Ns ts t a) (hN : ∀ N ∈ Ns, N ≠ []) (ht : ts.length ≤ t) : Told W Ns ts := by
  refine ⟨B.first, B.ok, B.asc, fun u hu => ?_⟩
  have h : ∃ y ∈ ts, form Ns y = form Ns u ∧ rank W y ≤ rank W u := by
    induction u using snoc_ind with
    | h0 => exact ⟨[], List.mem_of_getElem? B.first, rfl, Nat.le_refl _⟩
    | hs x b ih =>
      have hx := okT_snoc.mp hu
      obtain ⟨n, rfl, n1, n2⟩ := int_letter hx.2
      obtain ⟨y, hy, e1, e2⟩ := ih hx.1
      obtain ⟨j, hj⟩ := List.getElem?_of_mem hy
      have := (List.getElem?_eq_some_iff.mp hj).1
      obtain ⟨z, hz, f1, f2⟩ := B.cl j y hj n n1 n2 (by omega)
      have hxy := Nat.mul_le_mul_left W e2
      refine ⟨z, hz, f1.trans (form_next hN e1 _), Nat.le_trans f2 ?_⟩
      rw [rank_snoc, rank_snoc]
      omega
  obtain ⟨y, hy, e1, e2⟩ := h
  exact ⟨y, hy, (form_vr hN e1).symm, e2⟩

/-! ### the little texts -/
def edge (W : Nat) : Nat → List Tx
  | 0 => [[]]
  | k + 1 => (edge W k).flatMap fun x => (List.range' 1 W).map fun s : Nat => x ++ [(s : Int)]
def words (W : Nat) : Nat → List Tx
  | 0 => [[]]
  | k + 1 => words W k ++ edge W (k + 1)
theorem mem_edge {W : Nat} : ∀ {k : Nat} {x : Tx}, x ∈ edge W k ↔ okT W x ∧ x.length = k
  | 0, x => by
    rw [edge, List.mem_singleton]
    constructor
    · rintro rfl; exact ⟨okT_nil W, rfl⟩
    · rintro ⟨_, h⟩; exact List.length_eq_zero_iff.mp h
  | k + 1, x => by
    rw [edge, List.mem_flatMap]
    constructor
    · rintro ⟨y, hy, h⟩
      obtain ⟨s, hs, e⟩ := List.mem_map.mp h
      have := List.mem_range'_1.mp hs
      obtain ⟨h1, h2⟩ := mem_edge.mp hy
      rw [← e]
      exact ⟨okT_snoc.mpr ⟨h1, by omega, by omega⟩, by rw [List.length_append, h2]; rfl⟩
    · rintro ⟨h1, h2⟩
      rcases snoc_cases x with rfl | ⟨y, a, rfl⟩
      · simp at h2
      · have hy := okT_snoc.mp h1
        obtain ⟨n, rfl, n1, n2⟩ := int_letter hy.2
        rw [List.length_append, List.length_singleton] at h2
        exact ⟨y, mem_edge.mpr ⟨hy.1, by omega⟩, List.mem_map.mpr ⟨n, List.mem_range'_1.mpr ⟨n1, by omega⟩, rfl⟩⟩
theorem mem_words {W : Nat} : ∀ {k : Nat} {x : Tx}, x ∈ words W k ↔ okT W x ∧ x.length ≤ k
  | 0, x => by
    rw [words, List.mem_singleton]
    constructor
    · rintro rfl; exact ⟨okT_nil W, Nat.le_refl _⟩
    · rintro ⟨_, h⟩; exact List.length_eq_zero_iff.mp (Nat.le_zero.mp h)
  | k + 1, x => by
    rw [words, List.mem_append, mem_words, mem_edge]
    constructor
    · rintro (⟨a, b⟩ | ⟨a, b⟩)
      · exact ⟨a, by omega⟩
      · exact ⟨a, by omega⟩
    · rintro ⟨a, b⟩
      by_cases h : x.length ≤ k
      · exact .inl ⟨a, h⟩
      · exact .inr ⟨a, by omega⟩
theorem pw_flat {α β : Type} {R : α → α → Prop} {S : β → β → Prop} {f : α → List β} : ∀ {l : List α}, l.Pairwise R → (∀ a ∈ l, (f a).Pairwise S) → (∀ a b, a ∈ l → b ∈ l → R a b → ∀ x ∈ f a, ∀ y ∈ f b, S x y) → (l.flatMap f).Pairwise S
  | [], _, _, _ => List.Pairwise.nil
  | a :: l, h, h1, h2 => by
    rw [List.pairwise_cons] at h
    rw [List.flatMap_cons, List.pairwise_append]
    refine ⟨h1 a List.mem_cons_self, pw_flat h.2 (fun b hb => h1 b (List.mem_cons_of_mem _ hb)) (fun b c hb hc => h2 b c (List.mem_cons_of_mem _ hb) (List.mem_cons_of_mem _ hc)), fun x hx y hy => ?_⟩
    obtain ⟨b, hb, hy'⟩ := List.mem_flatMap.mp hy
    exact h2 a b List.mem_cons_self (List.mem_cons_of_mem _ hb) (h.1 b hb) x hx y hy'
theorem edge_asc (W : Nat) : ∀ k, (edge W k).Pairwise fun x y => rank W x < rank W y
  | 0 => List.pairwise_singleton _ _
  | k + 1 => by
    rw [edge]
    refine pw_flat (edge_asc W k) (fun x hx => ?_) (fun x y hx hy h z hz z' hz' => ?_)
    · rw [List.pairwise_map]
      refine (List.pairwise_lt_range' (s := 1) (n := W) (step := 1)).imp fun {s s'} h => ?_
      rw [rank_snoc, rank_snoc]
      omega
    · obtain ⟨s, hs, e⟩ := List.mem_map.mp hz
      obtain ⟨s', hs', e'⟩ := List.mem_map.mp hz'
      have := List.mem_range'_1.mp hs
      have := List.mem_range'_1.mp hs'
      have := mul_succ_le (W := W) h
      rw [← e, ← e', rank_snoc, rank_snoc]
      omega
theorem words_asc (W : Nat) : ∀ k, (words W k).Pairwise fun x y => rank W x < rank W y
  | 0 => List.pairwise_singleton _ _
  | k + 1 => by
    rw [words, List.pairwise_append]
    refine ⟨words_asc W k, edge_asc W (k + 1), fun x hx y hy => ?_⟩
    obtain ⟨h1, h2⟩ := mem_words.mp hx
    obtain ⟨h3, h4⟩ := mem_edge.mp hy
    exact rank_short _ x y rfl h1 h3 (by omega)
theorem words_first (W : Nat) : ∀ k, (words W k)[0]? = some []
  | 0 => rfl
  | k + 1 => by
    have h := words_first W k
    rw [words, List.getElem?_append_left (List.getElem?_eq_some_iff.mp h).1]
    exact h
/-- the first of the told texts and the first of the little ones of which something that is seen is so -/
theorem first_same {W : Nat} {Ns : List Nm} {ts : List Tx} {K : Nat} (T : Told W Ns ts) (hK : pairs Ns ≤ K) (P : Tx → Bool) (hP : ∀ u v, VR Ns u v → P u = P v) : (ts.filter P).head? = ((words W K).filter P).head? := by
  have least : ∀ {l : List Tx} {x : Tx}, l.Pairwise (fun x y => rank W x < rank W y) → (l.filter P).head? = some x → x ∈ l ∧ P x = true ∧ ∀ y ∈ l, P y = true → rank W x ≤ rank W y := fun {l x} h e => by
    have hm := List.mem_filter.mp (List.mem_of_head? e)
    refine ⟨hm.1, hm.2, fun y hy py => ?_⟩
    have hf := h.filter (fun z => P z)
    cases hl : l.filter P with
    | nil => rw [hl] at e; cases e
    | cons z r =>
      rw [hl] at e hf
      have ez : z = x := Option.some.inj e
      rw [List.pairwise_cons] at hf
      have hy' : y ∈ z :: r := by rw [← hl]; exact List.mem_filter.mpr ⟨hy, py⟩
      rcases List.mem_cons.mp hy' with c | c
      · rw [c, ez]; exact Nat.le_refl _
      · rw [← ez]; exact Nat.le_of_lt (hf.1 y c)
  cases h : (ts.filter P).head? with
  | none =>
    have hn : ∀ x ∈ ts, P x = false := fun x hx => by
      cases hp : P x with
      | false => rfl
      | true =>
        have : x ∈ ts.filter P := List.mem_filter.mpr ⟨hx, hp⟩
        rw [List.head?_eq_none_iff.mp h] at this
        cases this
    symm
    rw [List.head?_eq_none_iff, List.filter_eq_nil_iff]
    intro x hx hp
    obtain ⟨y, hy, e, _⟩ := T.rep x (mem_words.mp hx).1
    rw [hP x y e, hn y hy] at hp
    cases hp
  | some x =>
    obtain ⟨hx, px, hmin⟩ := least T.asc h
    have hall : ∀ u, okT W u → P u = true → rank W x ≤ rank W u := fun u hu pu => by
      obtain ⟨y, hy, e, e2⟩ := T.rep u hu
      exact Nat.le_trans (hmin y hy (by rw [← hP u y e]; exact pu)) e2
    obtain ⟨v, v1, v2, v3, v4⟩ := vr_little Ns _ x rfl
    have hv := okT_sub (T.ok x hx) v3
    have pv : P v = true := by rw [← hP x v v4]; exact px
    have hxK : x.length ≤ K := by
      rcases v2 with e | e
      · rw [← e]; omega
      · have := rank_short _ v x rfl hv (T.ok x hx) e
        have := hall v hv pv
        omega
    have hxw : x ∈ words W K := mem_words.mpr ⟨T.ok x hx, hxK⟩
    cases h2 : ((words W K).filter P).head? with
    | none =>
      have : x ∈ (words W K).filter P := List.mem_filter.mpr ⟨hxw, px⟩
      rw [List.head?_eq_none_iff.mp h2] at this
      cases this
    | some z =>
      obtain ⟨hz, pz, hmin2⟩ := least (words_asc W K) h2
      have a := hmin2 x hxw px
      have b := hall z (mem_words.mp hz).1 pz
      rw [rank_inj _ x z rfl (T.ok x hx) (mem_words.mp hz).1 (by omega)]
theorem some_same {W : Nat} {Ns : List Nm} {ts : List Tx} {K : Nat} (T : Told W Ns ts) (hK : pairs Ns ≤ K) (P : Tx → Bool) (hP : ∀ u v, VR Ns u v → P u = P v) : ts.any P = (words W K).any P := by
  have h := first_same T hK P hP
  have e : ∀ l : List Tx, l.any P = ((l.filter P).head?).isSome := fun l => by
    induction l with
    | nil => rfl
    | cons a l ih =>
      rw [List.any_cons, List.filter_cons]
      cases hp : P a with
      | true => rfl
      | false => rw [Bool.false_or, ih]; rfl
  rw [e, e, h]
/-- a long text is seen as one of the little ones -/
theorem long_little {W : Nat} {Ns : List Nm} {K : Nat} (hK : pairs Ns ≤ K) (u : Tx) (hu : okT W u) : ∃ v ∈ words W K, VR Ns u v := by
  obtain ⟨v, v1, v2, v3, v4⟩ := vr_little Ns _ u rfl
  exact ⟨v, mem_words.mpr ⟨okT_sub hu v3, by omega⟩, v4⟩
end Nx
/-! the mathematics, 5: there is just one such search, and it ends -/
namespace Nx
section
variable {W : Nat} {Ns : List Nm} {ts : List Tx} {t a : Nat}
theorem Bf.reps (B : Bf W Ns ts t a) (hN : ∀ N ∈ Ns, N ≠ []) (ht : ts.length ≤ t) (u : Tx) : okT W u → ∃ y ∈ ts, form Ns y = form Ns u ∧ rank W y ≤ rank W u := by
  induction u using snoc_ind with
  | h0 => exact fun _ => ⟨[], List.mem_of_getElem? B.first, rfl, Nat.le_refl _⟩
  | hs x b ih =>
    intro hu
    have hx := okT_snoc.mp hu
    obtain ⟨n, rfl, n1, n2⟩ := int_letter hx.2
    obtain ⟨y, hy, e1, e2⟩ := ih hx.1
    obtain ⟨j, hj⟩ := List.getElem?_of_mem hy
    have := (List.getElem?_eq_some_iff.mp hj).1
    obtain ⟨z, hz, f1, f2⟩ := B.cl j y hj n n1 n2 (by omega)
    have hxy := Nat.mul_le_mul_left W e2
    refine ⟨z, hz, f1.trans (form_next hN e1 _), Nat.le_trans f2 ?_⟩
    rw [rank_snoc, rank_snoc]
    omega
/-- the search, and that no form has come twice -/
structure Bg (W : Nat) (Ns : List Nm) (ts : List Tx) (t a : Nat) : Prop where
  b : Bf W Ns ts t a
  dist : (ts.map (form Ns)).Nodup
theorem Bg.init (W : Nat) (Ns : List Nm) : Bg W Ns [[]] 0 1 := ⟨Bf.init W Ns, List.pairwise_singleton _ _⟩
theorem Bg.old (B : Bg W Ns ts t a) {v : Tx} (hv : ts[t]? = some v) (h : form Ns (v ++ [(a : Int)]) ∈ ts.map (form Ns)) : Bg W Ns ts t (a + 1) := ⟨B.b.old hv h, B.dist⟩
theorem Bg.new (B : Bg W Ns ts t a) (hN : ∀ N ∈ Ns, N ≠ []) (a1 : 1 ≤ a) (a2 : a ≤ W) {v : Tx} (hv : ts[t]? = some v) (h : form Ns (v ++ [(a : Int)]) ∉ ts.map (form Ns)) : Bg W Ns (ts ++ [v ++ [(a : Int)]]) t (a + 1) := by
  refine ⟨B.b.new hN a1 a2 hv h, ?_⟩
  rw [List.map_append, List.map_singleton, List.nodup_append]
  refine ⟨B.dist, List.pairwise_singleton _ _, fun x hx y hy e => ?_⟩
  rw [List.mem_singleton.mp hy] at e
  rw [e] at hx
  exact h hx
theorem Bg.turn (B : Bg W Ns ts t (W + 1)) {v : Tx} (hv : ts[t]? = some v) : Bg W Ns ts (t + 1) 1 := ⟨B.b.turn hv, B.dist⟩
theorem Bg.size (B : Bg W Ns ts t a) (hW : 2 ≤ W) : ts.length < 2 * W ^ costs Ns := B.b.size hW
end
structure IsTold (W : Nat) (Ns : List Nm) (ts : List Tx) : Prop where
  t : Told W Ns ts
  repF : ∀ u, okT W u → ∃ y ∈ ts, form Ns y = form Ns u ∧ rank W y ≤ rank W u
  dist : (ts.map (form Ns)).Nodup
  size : 2 ≤ W → ts.length < 2 * W ^ costs Ns
  short : ∀ x ∈ ts, x.length ≤ costs Ns
theorem Bg.done {W : Nat} {Ns : List Nm} {ts : List Tx} {t a : Nat} (B : Bg W Ns ts t a) (hN : ∀ N ∈ Ns, N ≠ []) (ht : ts.length ≤ t) : IsTold W Ns ts := ⟨B.b.done hN ht, B.b.reps hN ht, B.dist, B.size, B.b.sh⟩
theorem nodup_inj {α β : Type} {f : α → β} : ∀ {l : List α}, (l.map f).Nodup → ∀ x ∈ l, ∀ y ∈ l, f x = f y → x = y
  | [], _, x, hx, _, _, _ => by cases hx
  | a :: l, h, x, hx, y, hy, e => by
    rw [List.map_cons, List.nodup_cons] at h
    rcases List.mem_cons.mp hx with c | c <;> rcases List.mem_cons.mp hy with d | d
    · rw [c, d]
    · exact absurd (List.mem_map.mpr ⟨y, d, by rw [← e, c]⟩) h.1
    · exact absurd (List.mem_map.mpr ⟨x, c, by rw [e, d]⟩) h.1
    · exact nodup_inj h.2 x c y d e
theorem IsTold.sub {W : Nat} {Ns : List Nm} {ts ts' : List Tx} (T : IsTold W Ns ts) (T' : IsTold W Ns ts') : ∀ x ∈ ts, x ∈ ts' := fun x hx => by
  obtain ⟨y', hy', e1, r1⟩ := T'.repF x (T.t.ok x hx)
  obtain ⟨y, hy, e2, r2⟩ := T.repF y' (T'.t.ok y' hy')
  have e := nodup_inj T.dist y hy x hx (e2.trans e1)
  rw [e] at r2
  rw [rank_inj _ x y' rfl (T.t.ok x hx) (T'.t.ok y' hy') (by omega)]
  exact hy'
theorem sorted_eq {α : Type} (r : α → Nat) : ∀ {l m : List α}, l.Pairwise (fun x y => r x < r y) → m.Pairwise (fun x y => r x < r y) → (∀ x, x ∈ l ↔ x ∈ m) → l = m
  | [], [], _, _, _ => rfl
  | [], b :: m, _, _, h => absurd ((h b).mpr List.mem_cons_self) (by simp)
  | a :: l, [], _, _, h => absurd ((h a).mp List.mem_cons_self) (by simp)
  | a :: l, b :: m, h1, h2, h => by
    rw [List.pairwise_cons] at h1 h2
    have e : a = b := by
      rcases List.mem_cons.mp ((h a).mp List.mem_cons_self) with c | c
      · exact c
      · rcases List.mem_cons.mp ((h b).mpr List.mem_cons_self) with d | d
        · exact d.symm
        · have := h1.1 b d
          have := h2.1 a c
          omega
    subst e
    rw [sorted_eq r h1.2 h2.2 fun x => ?_]
    constructor
    · intro hx
      rcases List.mem_cons.mp ((h x).mp (List.mem_cons_of_mem _ hx)) with c | c
      · subst c
        have := h1.1 x hx
        omega
      · exact c
    · intro hx
      rcases List.mem_cons.mp ((h x).mpr (List.mem_cons_of_mem _ hx)) with c | c
      · subst c
        have := h2.1 x hx
        omega
      · exact c
theorem IsTold.uniq {W : Nat} {Ns : List Nm} {ts ts' : List Tx} (T : IsTold W Ns ts) (T' : IsTold W Ns ts') : ts = ts' :=
  sorted_eq (rank W) T.t.asc T'.t.asc fun x => ⟨T.sub T' x, T'.sub T x⟩
/-- one turn -/
theorem turn_ex {W : Nat} {Ns : List Nm} (hN : ∀ N ∈ Ns, N ≠ []) {v : Tx} : ∀ (n a t : Nat) (ts : List Tx), W + 1 - a = n → 1 ≤ a → a ≤ W + 1 → ts[t]? = some v → Bg W Ns ts t a → ∃ ts', Bg W Ns ts' t (W + 1) ∧ ts'[t]? = some v
  | 0, a, t, ts, hn, a1, a2, hv, B => ⟨ts, by rw [show W + 1 = a by omega]; exact B, hv⟩
  | n + 1, a, t, ts, hn, a1, a2, hv, B => by
    by_cases h : form Ns (v ++ [(a : Int)]) ∈ ts.map (form Ns)
    · exact turn_ex hN n (a + 1) t ts (by omega) (by omega) (by omega) hv (B.old hv h)
    · refine turn_ex hN n (a + 1) t _ (by omega) (by omega) (by omega) ?_ (B.new hN a1 (by omega) hv h)
      rw [List.getElem?_append_left (List.getElem?_eq_some_iff.mp hv).1]
      exact hv
theorem search_ex {W : Nat} {Ns : List Nm} (hN : ∀ N ∈ Ns, N ≠ []) (hW : 2 ≤ W) : ∀ (n t : Nat) (ts : List Tx), 2 * W ^ costs Ns - t = n → Bg W Ns ts t 1 → ∃ ts', IsTold W Ns ts'
  | 0, t, ts, hn, B => ⟨ts, B.done hN (by have := B.size hW; omega)⟩
  | n + 1, t, ts, hn, B => by
    cases hv : ts[t]? with
    | none => exact ⟨ts, B.done hN (by simpa using hv)⟩
    | some v =>
      obtain ⟨ts', B', hv'⟩ := turn_ex hN _ 1 t ts rfl (Nat.le_refl 1) (by omega) hv B
      exact search_ex hN hW n (t + 1) ts' (by omega) (B'.turn hv')
theorem told_ex {W : Nat} {Ns : List Nm} (hN : ∀ N ∈ Ns, N ≠ []) (hW : 2 ≤ W) : ∃ ts, IsTold W Ns ts := search_ex hN hW _ 0 [[]] rfl (Bg.init W Ns)
open Classical in
noncomputable def told (W : Nat) (Ns : List Nm) : List Tx := if h : ∃ ts, IsTold W Ns ts then h.choose else []
theorem told_is {W : Nat} {Ns : List Nm} (hN : ∀ N ∈ Ns, N ≠ []) (hW : 2 ≤ W) : IsTold W Ns (told W Ns) := by
  have h := told_ex hN hW
  unfold told
  rw [dif_pos h]
  exact h.choose_spec
theorem IsTold.eq {W : Nat} {Ns : List Nm} {ts : List Tx} (hN : ∀ N ∈ Ns, N ≠ []) (hW : 2 ≤ W) (T : IsTold W Ns ts) : ts = told W Ns := T.uniq (told_is hN hW)
end Nx
set_option maxRecDepth 100000
/-! the mathematics, 6: told texts and little texts are asked alike -/
namespace Nx
section
variable {W K : Nat} {Ns : List Nm}
theorem told_first (hN : ∀ N ∈ Ns, N ≠ []) (hW : 2 ≤ W) : ∃ r, told W Ns = [] :: r := by
  have h := (told_is hN hW).t.first
  cases e : told W Ns with
  | nil => rw [e] at h; cases h
  | cons a r => rw [e] at h; exact ⟨r, by rw [show a = [] from Option.some.inj h]⟩
theorem little_first (W K : Nat) : ∃ r, words W K = [] :: r := by
  have h := words_first W K
  cases e : words W K with
  | nil => rw [e] at h; cases h
  | cons a r => rw [e] at h; exact ⟨r, by rw [show a = [] from Option.some.inj h]⟩
theorem all_same {ts : List Tx} (T : Told W Ns ts) (hK : pairs Ns ≤ K) (P : Tx → Bool) (hP : ∀ u v, VR Ns u v → P u = P v) : ts.all P = (words W K).all P := by
  have h := some_same T hK (fun u => !P u) (fun u v e => by rw [hP u v e])
  have e : ∀ l : List Tx, l.all P = !(l.any fun u => !P u) := fun l => by
    induction l with
    | nil => rfl
    | cons a l ih => rw [List.all_cons, List.any_cons, ih]; cases P a <;> rfl
  rw [e, e, h]
end
end Nx
set_option maxHeartbeats 4000000
/-! rules that the layer lacks, 1: what data is kept by; a dict whose keys are nested tuples, used as a set -/
namespace Nx
open PySem PySem.Spec PyProof.Rows L2

/-! ### data stays -/
def seqO : HO → Bool
  | .lst _ => true
  | .tup _ => true
  | .frz _ _ => true
  | _ => false
def tupO : HO → Bool
  | .tup _ => true
  | .frz _ _ => true
  | _ => false
/-- all lists and tuples stay; all tuples stay -/
def Sst (H H' : Hp) : Prop := ∀ b o, seqO o = true → H b = some o → H' b = some o
def Tst (H H' : Hp) : Prop := ∀ b o, tupO o = true → H b = some o → H' b = some o
theorem Sst.of {H H' : Hp} (e : Same H H') : Sst H H' := fun b o _ h => e b o h
theorem Sst.tx {H H' : Hp} (e : Sst H H') : Tst H H' := fun b o h => e b o (by cases o <;> first | rfl | exact absurd h Bool.false_ne_true)
theorem Sst.refl (H : Hp) : Sst H H := fun _ _ _ h => h
theorem Sst.trans {H H1 H2 : Hp} (a : Sst H H1) (b : Sst H1 H2) : Sst H H2 := fun x o s h => b x o s (a x o s h)
theorem Tst.refl (H : Hp) : Tst H H := fun _ _ _ h => h
theorem Tst.trans {H H1 H2 : Hp} (a : Tst H H1) (b : Tst H1 H2) : Tst H H2 := fun x o s h => b x o s (a x o s h)
theorem sx_upd {H : Hp} {a : Addr} {o u : HO} (h : H a = some o) (hs : seqO o = false) : Sst H (upd H a u) := fun b v hv hb => by
  rw [upd_ne (fun z => by rw [z, h] at hb; rw [← Option.some.inj hb, hs] at hv; cases hv)]
  exact hb
theorem tx_upd {H : Hp} {a : Addr} {o u : HO} (h : H a = some o) (hs : tupO o = false) : Tst H (upd H a u) := fun b v hv hb => by
  rw [upd_ne (fun z => by rw [z, h] at hb; rw [← Option.some.inj hb, hs] at hv; cases hv)]
  exact hb
theorem seqL_mono {K : PySem.W.Frag} {H H' : Hp} {a : Addr} {xs : List V} (e : Sst H H') (h : SqL K H a xs) : SqL K H' a xs := by
  rcases h with (h | ⟨o, h⟩) | h
  · exact .inl (.inl (e _ _ rfl h))
  · exact .inl (.inr ⟨o, e _ _ rfl h⟩)
  · exact .inr h
theorem seqT_mono {K : PySem.W.Frag} {H H' : Hp} {a : Addr} {xs : List V} (e : Tst H H') (h : SqT K H a xs) : SqT K H' a xs := by
  rcases h with (h | ⟨o, h⟩) | h
  · exact .inl (.inl (e _ _ rfl h))
  · exact .inl (.inr ⟨o, e _ _ rfl h⟩)
  · exact .inr h
mutual
theorem Dp.mono {K : PySem.W.Frag} {H H' : Hp} (e : Sst H H') : ∀ {d : PyData} {v : V}, Dp K H v d → Dp K H' v d
  | .none, _, h => by cases h; exact .non
  | .bool b, _, h => by cases h; exact .bl b
  | .int i, _, h => by cases h; exact .int i
  | .str x, _, h => by cases h; exact .str x
  | .list ds, _, h => by
    cases h with
    | lst hs ha => exact .lst (seqL_mono e hs) (DpAll.mono e ha)
  | .tuple ds, _, h => by
    cases h with
    | tup hs ha => exact .tup (seqT_mono e.tx hs) (DpAll.mono e ha)
  | .dict _, _, h => by cases h
theorem DpAll.mono {K : PySem.W.Frag} {H H' : Hp} (e : Sst H H') : ∀ {ds : List PyData} {vs : List V}, DpAll K H vs ds → DpAll K H' vs ds
  | [], _, h => by cases h; exact .nil
  | d :: ds, _, h => by
    cases h with
    | cons h1 h2 => exact .cons (Dp.mono e h1) (DpAll.mono e h2)
end
mutual
/-- data without lists and dicts -/
def flatD : PyData → Bool
  | .none => true
  | .bool _ => true
  | .int _ => true
  | .str _ => true
  | .list _ => false
  | .tuple ds => flatDs ds
  | .dict _ => false
def flatDs : List PyData → Bool
  | [] => true
  | d :: ds => flatD d && flatDs ds
end
theorem flatDs_all : ∀ {ds : List PyData}, flatDs ds = true ↔ ∀ d ∈ ds, flatD d = true
  | [] => by simp [flatDs]
  | d :: ds => by
    rw [flatDs, Bool.and_eq_true, flatDs_all]
    simp
mutual
theorem Dp.monoT {K : PySem.W.Frag} {H H' : Hp} (e : Tst H H') : ∀ {d : PyData} {v : V}, flatD d = true → Dp K H v d → Dp K H' v d
  | .none, _, _, h => by cases h; exact .non
  | .bool b, _, _, h => by cases h; exact .bl b
  | .int i, _, _, h => by cases h; exact .int i
  | .str x, _, _, h => by cases h; exact .str x
  | .list ds, _, f, h => by cases f
  | .tuple ds, _, f, h => by
    rw [flatD] at f
    cases h with
    | tup hs ha => exact .tup (seqT_mono e hs) (DpAll.monoT e f ha)
  | .dict _, _, _, h => by cases h
theorem DpAll.monoT {K : PySem.W.Frag} {H H' : Hp} (e : Tst H H') : ∀ {ds : List PyData} {vs : List V}, flatDs ds = true → DpAll K H vs ds → DpAll K H' vs ds
  | [], _, _, h => by cases h; exact .nil
  | d :: ds, _, f, h => by
    rw [flatDs, Bool.and_eq_true] at f
    cases h with
    | cons h1 h2 => exact .cons (Dp.monoT e f.1 h1) (DpAll.monoT e f.2 h2)
end
theorem DpAll.len {K : PySem.W.Frag} {H : Hp} : ∀ {ds : List PyData} {vs : List V}, DpAll K H vs ds → vs.length = ds.length
  | [], _, h => by cases h; rfl
  | d :: ds, _, h => by
    cases h with
    | cons h1 h2 => rw [List.length_cons, List.length_cons, DpAll.len h2]
theorem DpAll.get {K : PySem.W.Frag} {H : Hp} : ∀ {ds : List PyData} {vs : List V} {i : Nat} {v : V}, DpAll K H vs ds → vs[i]? = some v → ∃ d, ds[i]? = some d ∧ Dp K H v d
  | [], _, i, v, h, e => by cases h; simp at e
  | d :: ds, _, i, v, h, e => by
    cases h with
    | cons h1 h2 =>
      cases i with
      | zero => simp at e; subst e; exact ⟨d, rfl, h1⟩
      | succ i =>
        simp at e
        obtain ⟨d', h3, h4⟩ := DpAll.get h2 e
        exact ⟨d', by simpa using h3, h4⟩
theorem DpAll.got {K : PySem.W.Frag} {H : Hp} : ∀ {ds : List PyData} {vs : List V} {i : Nat} {d : PyData}, DpAll K H vs ds → ds[i]? = some d → ∃ v, vs[i]? = some v ∧ Dp K H v d
  | [], _, i, v, h, e => by cases h; simp at e
  | d :: ds, _, i, v, h, e => by
    cases h with
    | cons h1 h2 =>
      cases i with
      | zero => simp at e; subst e; exact ⟨_, rfl, h1⟩
      | succ i =>
        simp at e
        obtain ⟨d', h3, h4⟩ := DpAll.got h2 e
        exact ⟨d', by simpa using h3, h4⟩
theorem DpAll.app {K : PySem.W.Frag} {H : Hp} : ∀ {ds es : List PyData} {vs ws : List V}, DpAll K H vs ds → DpAll K H ws es → DpAll K H (vs ++ ws) (ds ++ es)
  | [], _, _, _, h, g => by cases h; exact g
  | d :: ds, _, _, _, h, g => by
    cases h with
    | cons h1 h2 => exact .cons h1 (DpAll.app h2 g)
theorem DpAll.ints {K : PySem.W.Frag} {H : Hp} : ∀ {ns : List Int} {vs : List V}, DpAll K H vs (ns.map PyData.int) → vs = ns.map V.int
  | [], _, h => by cases h; rfl
  | n :: ns, _, h => by
    cases h with
    | cons h1 h2 => cases h1; rw [DpAll.ints h2]; rfl
theorem dps_ints {K : PySem.W.Frag} {H : Hp} : ∀ ns : List Int, DpAll K H (ns.map V.int) (ns.map PyData.int)
  | [] => .nil
  | n :: ns => .cons (.int n) (dps_ints ns)
theorem dps_strs {K : PySem.W.Frag} {H : Hp} : ∀ ns : List Str, DpAll K H (ns.map V.str) (ns.map PyData.str)
  | [] => .nil
  | n :: ns => .cons (.str n) (dps_strs ns)
theorem DpAll.strs {K : PySem.W.Frag} {H : Hp} : ∀ {ns : List Str} {vs : List V}, DpAll K H vs (ns.map PyData.str) → vs = ns.map V.str
  | [], _, h => by cases h; rfl
  | n :: ns, _, h => by
    cases h with
    | cons h1 h2 => cases h1; rw [DpAll.strs h2]; rfl

/-! ### data as a key -/
mutual
def nk : PyData → NestedKey
  | .none => .none
  | .bool b => .num (if b = true then 1 else 0)
  | .int i => .num i
  | .str x => .text x
  | .list _ => .none
  | .tuple ds => .tup (nks ds)
  | .dict _ => .none
def nks : List PyData → List NestedKey
  | [] => []
  | d :: ds => nk d :: nks ds
end
mutual
theorem nk_is {X : Cx} {pins : List (Addr × Obj)} {σ : L2.St} {H : Hp} {s : Shared} (I : Inv X pins σ H s) : ∀ {d : PyData} {v : V} {u : Value}, flatD d = true → Dp X.K H v d → RelV v u → NestedIs s.heap (nk d) u
  | .none, _, _, _, h, r => by cases h; cases r; exact .none
  | .bool b, _, _, _, h, r => by cases h; cases r; exact .bool rfl
  | .int i, _, _, _, h, r => by cases h; obtain ⟨t, rfl⟩ := r; exact .int i t
  | .str x, _, _, _, h, r => by cases h; obtain ⟨t, rfl⟩ := r; exact .text x t
  | .list ds, _, _, f, h, r => by cases f
  | .tuple ds, _, _, f, h, r => by
    rw [flatD] at f
    cases h with
    | tup hs ha =>
      cases r
      obtain ⟨its, rv, ⟨o, h1, h2, n, h3⟩, _⟩ := I.tuple hs
      exact .tup h1 h2 h3 (by simpa using nks_is I f ha rv)
  | .dict _, _, _, _, h, _ => by cases h
theorem nks_is {X : Cx} {pins : List (Addr × Obj)} {σ : L2.St} {H : Hp} {s : Shared} (I : Inv X pins σ H s) : ∀ {ds : List PyData} {vs : List V} {us : List Value}, flatDs ds = true → DpAll X.K H vs ds → Vals vs us → NestedAll s.heap (nks ds) us
  | [], _, _, _, h, r => by cases h; cases r; exact .nil
  | d :: ds, _, _, f, h, r => by
    rw [flatDs, Bool.and_eq_true] at f
    cases h with
    | cons h1 h2 =>
      cases r with
      | cons r1 r2 => exact .cons (nk_is I f.1 h1 r1) (nks_is I f.2 h2 r2)
end
/-- a tuple that may be a key -/
structure KeyD (d : PyData) : Prop where
  flat : flatD d = true
  deep : (nk d).depth ≤ 8
  tup : ∃ ds, d = .tuple ds
theorem KeyD.ref {K : PySem.W.Frag} {H : Hp} {v : V} {d : PyData} (k : KeyD d) (h : Dp K H v d) : ∃ a, v = .ref a := by
  obtain ⟨ds, rfl⟩ := k.tup
  cases h with
  | tup _ _ => exact ⟨_, rfl⟩

/-- the dict at a, its entries xs -/
def rawD (P : Program) (w : World) (a : Addr) (xs : List (NestedKey × Addr × Value)) : HO :=
  .ext fun h => (∃ o es ep, h.get? a = some o ∧ o.ExactDict ∧ o.data = .dict es ep ∧ es.toList = xs.map (entryOfKey (nestedKind P w)) ∧ (xs.map (·.1)).Nodup) ∧ (a == sysModules) = false
/-- its keys, in their order -/
def KeysD (K : PySem.W.Frag) (H : Hp) (ds : List PyData) (xs : List (NestedKey × Addr × Value)) : Prop :=
  Paired (fun d (x : NestedKey × Addr × Value) => x.1 = nk d ∧ KeyD d ∧ Dp K H (.ref x.2.1) d) ds xs
/-- at a stands a dict, its keys the data ds -/
def DSet (K : PySem.W.Frag) (P : Program) (w : World) (H : Hp) (a : Addr) (ds : List PyData) : Prop := ∃ xs, H a = some (rawD P w a xs) ∧ KeysD K H ds xs ∧ xs.length ≤ sizeLine
theorem KeysD.len {K : PySem.W.Frag} {H : Hp} {ds : List PyData} {xs : List (NestedKey × Addr × Value)} (h : KeysD K H ds xs) : ds.length = xs.length := Paired.length h
theorem KeysD.keys {K : PySem.W.Frag} {H : Hp} : ∀ {ds : List PyData} {xs : List (NestedKey × Addr × Value)}, KeysD K H ds xs → xs.map (·.1) = ds.map nk
  | [], _, h => by cases h; rfl
  | d :: ds, _, h => by
    cases h with
    | cons h1 h2 => rw [List.map_cons, List.map_cons, KeysD.keys h2, h1.1]
theorem KeysD.mono {K : PySem.W.Frag} {H H' : Hp} (e : Tst H H') : ∀ {ds : List PyData} {xs : List (NestedKey × Addr × Value)}, KeysD K H ds xs → KeysD K H' ds xs
  | [], _, h => by cases h; exact .nil
  | d :: ds, _, h => by
    cases h with
    | cons h1 h2 => exact .cons ⟨h1.1, h1.2.1, Dp.monoT e h1.2.1.flat h1.2.2⟩ (KeysD.mono e h2)
theorem KeysD.app {K : PySem.W.Frag} {H : Hp} {d : PyData} {x : NestedKey × Addr × Value} (h1 : x.1 = nk d ∧ KeyD d ∧ Dp K H (.ref x.2.1) d) : ∀ {ds : List PyData} {xs : List (NestedKey × Addr × Value)}, KeysD K H ds xs → KeysD K H (ds ++ [d]) (xs ++ [x])
  | [], _, h => by cases h; exact .cons h1 .nil
  | _ :: ds, _, h => by
    cases h with
    | cons h2 h3 => exact .cons h2 (KeysD.app h1 h3)
theorem KeysD.is {X : Cx} {pins : List (Addr × Obj)} {σ : L2.St} {H : Hp} {s : Shared} (I : Inv X pins σ H s) : ∀ {ds : List PyData} {xs : List (NestedKey × Addr × Value)}, KeysD X.K H ds xs → ∀ x ∈ xs, (nestedKind X.prog X.w).is s.heap x.1 x.2.1
  | [], _, h, x, hx => by cases h; cases hx
  | d :: ds, _, h, x, hx => by
    cases h with
    | cons h1 h2 =>
      rcases List.mem_cons.mp hx with e | hx
      · rw [e]
        refine ⟨?_, by rw [h1.1]; exact h1.2.1.deep⟩
        rw [h1.1]
        exact nk_is I h1.2.1.flat h1.2.2 (show RelV (.ref _) (.ref _) from rfl)
      · exact KeysD.is I h2 x hx
theorem DSet.of {K : PySem.W.Frag} {P : Program} {w : World} {H H' : Hp} {a : Addr} {ds : List PyData} (h : DSet K P w H a ds) (e : Tst H H') (ha : H' a = H a) : DSet K P w H' a ds := by
  obtain ⟨xs, h1, h2, h3⟩ := h
  exact ⟨xs, by rw [ha]; exact h1, h2.mono e, h3⟩
section
variable {X : Cx} {pins : List (Addr × Obj)} {σ : L2.St} {H : Hp} {s : Shared} {a : Addr} {ds : List PyData}
theorem DSet.dict {xs : List (NestedKey × Addr × Value)} (I : Inv X pins σ H s) (h : H a = some (rawD X.prog X.w a xs)) (k : KeysD X.K H ds xs) : s.heap.DictOfH (nestedKind X.prog X.w) a xs ∧ (a == sysModules) = false := by
  obtain ⟨⟨⟨o, es, ep, h1, h2, h3, h4, h5⟩, hb⟩, _⟩ := I.hok a _ h
  exact ⟨⟨o, es, ep, h1, h2, h3, h4, k.is I, h5⟩, hb⟩
theorem rawD_ok {P : Program} {w : World} {H' : Hp} {h : Heap} {xs : List (NestedKey × Addr × Value)} (hd : h.DictOfH (nestedKind P w) a xs) (hb : (a == sysModules) = false) : ObjOk P w H' h a (rawD P w a xs) := by
  obtain ⟨o, es, ep, h1, h2, h3, h4, _, h5⟩ := hd
  exact ⟨⟨⟨o, es, ep, h1, h2, h3, h4, h5⟩, hb⟩, ⟨o, h1⟩, fun g g' p k => let ⟨⟨o, es, ep, q, r⟩, b⟩ := p; ⟨⟨o, es, ep, k o q, r⟩, b⟩⟩
theorem atKey_some {xs : List (NestedKey × Addr × Value)} {k : NestedKey} : (atKey xs k).isSome = decide (k ∈ xs.map (·.1)) := by
  induction xs with
  | nil => rfl
  | cons x xs ih =>
    by_cases h : x.1 = k
    · simp [atKey, h]
    · have e : atKey (x :: xs) k = atKey xs k := by unfold atKey; rw [List.find?_cons, decide_eq_false h]
      have n : ¬ k = x.1 := fun z => h z.symm
      rw [e, ih, List.map_cons]
      simp [n]
/-- key not in the dict -/
def rNotInN (K : PySem.W.Frag) (P : Program) (w : World) : R2 := fun x y H Q => ∃ a d ds, y = .ref a ∧ DSet K P w H a ds ∧ KeyD d ∧ Dp K H x d ∧ Q (.bl (!decide (nk d ∈ ds.map nk))) H
theorem op_notInN (hu : X.A.units + 64 < cLine) : OpR X (compareOp .NotIn) (rNotInN X.K X.prog X.w) := by
  intro pins s σ H x y v u Q I rx ry h
  obtain ⟨a, d, ds, rfl, ⟨xs, h1, h2, h3⟩, kd, hd, q⟩ := h
  obtain ⟨b, rfl⟩ := kd.ref hd
  cases rx
  cases ry
  obtain ⟨hdict, hb⟩ := DSet.dict I h1 h2
  have hk : (nestedKind X.prog X.w).is s.heap (nk d) b := ⟨nk_is I kd.flat hd (show RelV (.ref _) (.ref _) from rfl), kd.deep⟩
  refine notIn_keyed (kvs := pairsH xs) (by show X.A.units + 1 + 8 < cLine; omega) hk hb ⟨xs, hdict, rfl⟩ ⟨.bl _, H, I.tok _, ?_, q⟩
  show Value.bool _ = Value.bool _
  rw [valueAt_pairsH, Option.isSome_map, atKey_some, h2.keys]
/-- the dict, with one key more -/
def rPutN (K : PySem.W.Frag) (P : Program) (w : World) : TSet := fun o i v H Q => ∃ a d ds, o = .ref a ∧ v = .bl true ∧ DSet K P w H a ds ∧ ds.length < sizeLine ∧ KeyD d ∧ Dp K H i d ∧ nk d ∉ ds.map nk ∧
  ∀ u, DSet K P w (upd H a u) a (ds ++ [d]) → Q (upd H a u)
theorem set_putN (hu : X.A.units + 64 < cLine) : PSet X (rPutN X.K X.prog X.w) := by
  intro pins s σ H o i v ou iu vu Q I ro ri rv h
  obtain ⟨a, d, ds, rfl, rfl, ⟨xs, h1, h2, h3⟩, hl, kd, hd, hn, q⟩ := h
  obtain ⟨b, rfl⟩ := kd.ref hd
  cases ro
  cases ri
  cases rv
  obtain ⟨hdict, hb⟩ := DSet.dict I h1 h2
  have hk : (nestedKind X.prog X.w).is s.heap (nk d) b := ⟨nk_is I kd.flat hd (show RelV (.ref _) (.ref _) from rfl), kd.deep⟩
  have hno : atKey xs (nk d) = none := by
    have := atKey_some (xs := xs) (k := nk d)
    rw [h2.keys, decide_eq_false hn] at this
    cases e : atKey xs (nk d) with
    | none => rfl
    | some z => rw [e] at this; cases this
  refine wpAny_setItem_heap (by show X.A.units + 1 + 8 < cLine; omega) hk hdict (fun h' hd' hs => ?_) h3
  have e : storedH xs (nk d) b (.bool true) = xs ++ [(nk d, b, .bool true)] := storedH_new hno _ _
  rw [e] at hd'
  have he : ∃ z, h'.get? a = some z := let ⟨z, _, _, hz, _⟩ := hd'; ⟨z, hz⟩
  have I2 := d_write (t' := s.toks + (nestedKind X.prog X.w).draws (nk d)) (ob := rawD X.prog X.w a (xs ++ [(nk d, b, .bool true)])) I (by rw [h1]; exact True.intro) hs he (rawD_ok hd' hb)
  have tx : Tst H (upd H a (rawD X.prog X.w a (xs ++ [(nk d, b, .bool true)]))) := tx_upd h1 rfl
  refine ⟨_, I2, q _ ⟨_, upd_same, KeysD.app ⟨rfl, kd, Dp.monoT tx kd.flat hd⟩ (h2.mono tx), ?_⟩⟩
  rw [List.length_append, List.length_singleton, ← h2.len]
  exact hl
/-- {key: True} -/
def tDispN (K : PySem.W.Frag) (P : Program) (w : World) (tk tv : TE) : TE := fun σ H Q => ∀ p, H p = none → tk σ (upd H p (rawD P w p [])) fun x H1 => tv σ H1 fun y H2 =>
  y = .bl true ∧ H2 p = some (rawD P w p []) ∧ ∃ d, KeyD d ∧ Dp K H2 x d ∧ ∀ u, DSet K P w (upd H2 p u) p [d] → Q (.ref p) (upd H2 p u)
theorem pe_dispN {k v : Expr} {pos : Pos} {tk tv : TE} (hu : X.A.units + 64 < cLine) (hk : PE X k tk) (hv : PE X v tv) : PE X (.Dict [some k] [v] pos) (tDispN X.K X.prog X.w tk tv) := by
  refine ⟨fun pins s σ H Q I q => ?_⟩
  have hn := I.hok.fresh (Nat.le_refl s.heap.objs.size)
  have hb : (s.heap.objs.size == sysModules) = false := beq_eq_false_iff_ne.mpr (Ne.symm (Nat.ne_of_lt I.big))
  have I1 := I.laid (a := s.heap.objs.size) (o := rawD X.prog X.w s.heap.objs.size []) (h' := s.heap.push { cls := .type "dict", data := .dict #[] }) (t' := s.toks) (fun _ _ z => Heap.get?_push_of_some _ z) (Nat.le_refl _) (rawD_ok (Heap.DictOfH.new _) hb)
  have hp : PPs X pos [some k] [v] [(tk, tv)] := pps_cons hk hv pps_nil
  have el := pairTrees_length [some k] [v] X.env pos rfl rfl
  have hlen : (pairTrees [some k] [v] X.env pos).length ≤ 15 := by rw [el]; exact (show 1 ≤ 15 by decide)
  have hne : pairTrees [some k] [v] X.env pos ≠ [] := fun z => by rw [z] at el; cases el
  rw [arm_eval_Dict, zip_pairTrees _ _ _ _ rfl rfl, dictDisplay_pairs _ hne (by omega)]
  refine wpAny_bind (wpAny_standAt (wpAny_bind (wpAny_subDictH (knd := nestedKind X.prog X.w) (Q := fun d s' => wpAny (model X.prog X.w) X.A (pure (Value.ref d)) (EP X pins σ Q) X.xe s') (by show X.A.units + 8 < cLine; omega) hlen ?_)))
  refine thn (hp.run pins _ σ _ (fun ps H2 => match ps with
    | [(x, y)] => y = .bl true ∧ H2 s.heap.objs.size = some (rawD X.prog X.w s.heap.objs.size []) ∧ ∃ d, KeyD d ∧ Dp X.K H2 x d ∧ ∀ u, DSet X.K X.prog X.w (upd H2 s.heap.objs.size u) s.heap.objs.size [d] → Q (.ref s.heap.objs.size) (upd H2 s.heap.objs.size u)
    | _ => False) I1 (q _ hn)) fun ws s2 ⟨ps, H2, I2, rel, q2⟩ => ?_
  match ps, rel, q2 with
  | [(x, y)], rel, ⟨e2, h2, d, kd, hd, q2⟩ =>
    subst e2
    obtain ⟨b, rfl⟩ := kd.ref hd
    obtain ⟨u1, u2, rfl, r1, r2⟩ : ∃ u1 u2, ws = [(u1, u2)] ∧ RelV (.ref b) u1 ∧ RelV (.bl true) u2 := by
      cases rel with
      | cons r rr => cases rr; exact ⟨_, _, rfl, r.1, r.2⟩
    cases (show u1 = Value.ref b from r1)
    cases (show u2 = Value.bool true from r2)
    have kx : (nestedKind X.prog X.w).is s2.heap (nk d) b := ⟨nk_is I2 kd.flat hd (show RelV (.ref _) (.ref _) from rfl), kd.deep⟩
    obtain ⟨hdict, hb2⟩ := DSet.dict (s := s2) (ds := []) I2 h2 .nil
    refine ⟨[(nk d, b, .bool true)], ⟨rfl, rfl, kx, trivial⟩, hdict, fun h' tk2 hd' hs => wpAny_pure ?_⟩
    have e : storedAllH [] [(nk d, b, Value.bool true)] = [(nk d, b, Value.bool true)] := rfl
    rw [e] at hd'
    have he : ∃ z, h'.get? s.heap.objs.size = some z := let ⟨z, _, _, hz, _⟩ := hd'; ⟨z, hz⟩
    have I3 := d_write (t' := tk2) (ob := rawD X.prog X.w s.heap.objs.size [(nk d, b, .bool true)]) I2 (by rw [h2]; exact True.intro) hs he (rawD_ok hd' hb2)
    have tx : Tst H2 (upd H2 s.heap.objs.size (rawD X.prog X.w s.heap.objs.size [(nk d, b, .bool true)])) := tx_upd h2 rfl
    exact ⟨.ref s.heap.objs.size, _, I3, rfl, q2 _ ⟨_, upd_same, .cons ⟨rfl, kd, Dp.monoT tx kd.flat hd⟩ .nil, by show 1 ≤ sizeLine; decide⟩⟩
end
end Nx
set_option maxHeartbeats 4000000
/-! rules that the layer lacks, 2: enumerate(tuple), *range(..) in a display, set(list of ints) -/
namespace Nx
open PySem PySem.Spec PyProof.Rows L2

/-! ### enumerate(t) -/
theorem meets_enum1 {v : Value} {o : Obj} {H : Heap → Prop} (B : Begins v o H) :
    Meets (Builtin.«enumerate.__new__» ⟨[.type "enumerate", v], []⟩) (fun _ R s => H s.heap ∧
      R (.ok (.ret (.ref (s.heap.push o).objs.size))) { s with heap := (s.heap.push o).push { cls := .type "enumerate", data := .fields #[.none, .bool false, .ref s.heap.objs.size, rawInt 0, .none, .none] } }) :=
  .of_wp fun prog w A R s h => by
    obtain ⟨h0, g, d, tk, os⟩ := s
    obtain ⟨h1, h⟩ := h
    have hsub := sub_enumerate
    have q1 : ∀ {A' : Around} {E : Value → Shared → Prop} {Q : Value → Shared → Prop}, Q (.ref h0.objs.size) ⟨h0.push o, g, d, tk, os⟩ → wpAny (model prog w) A' (pyIter v) Q E ⟨h0, g, d, tk, os⟩ := fun q => B.iter prog w _ _ ⟨h0, g, d, tk, os⟩ _ h1 q
    wp_walk using q1
    refine wpAny_stack_any fun st => wpAny_pure ?_
    split
    · rename_i c _ _ _ _ _
      cases (c == Value.type "enumerate") <;> (wp_walk using q1; exact ⟨_, rfl, h⟩)
    · wp_walk using q1
      exact ⟨_, rfl, h⟩
section
variable {prog : Program} {w : World} {A : Around} {E : Value → Shared → Prop} {s : Shared}
theorem call_enum1 {v : Value} {o : Obj} {H : Heap → Prop} {Q : Value → Shared → Prop} (B : Begins v o H) (h1 : H s.heap)
    (h : ∀ h', IsEnum h' (s.heap.objs.size + 1) s.heap.objs.size 0 .none → h'.get? s.heap.objs.size = some o → (∀ b u, s.heap.get? b = some u → h'.get? b = some u) → Q (.ref (s.heap.objs.size + 1)) { s with heap := h' }) :
    wpAny (model prog w) A (call (.type "enumerate") [v]) Q E s := by
  refine callType_new F.called_enumerate (by decide) (F.typeCall_enumerate_1 _) (F.newCall_enumerate_1 _) (fun obj => F.args_object_init_2 obj _) F.entry_enumerate_new (meets_enum1 B) ⟨h1, ?_⟩
  have hz : (s.heap.push o).objs.size = s.heap.objs.size + 1 := Heap.size_push ..
  show _ ∧ _
  rw [hz]
  have he : IsEnum ((s.heap.push o).push { cls := .type "enumerate", data := .fields #[.none, .bool false, .ref s.heap.objs.size, rawInt 0, .none, .none] }) (s.heap.objs.size + 1) s.heap.objs.size 0 .none := by
    have z := Heap.get?_push_size (s.heap.push o) (o := { cls := .type "enumerate", data := .fields #[.none, .bool false, .ref s.heap.objs.size, rawInt 0, .none, .none] }) rfl
    rw [hz] at z
    exact z
  exact ⟨⟨_, he, rfl⟩, h _ he (Heap.get?_push_of_some _ (Heap.get?_push_size _ B.free)) fun b u x => Heap.get?_push_of_some _ (Heap.get?_push_of_some _ x)⟩
end
/-- the tuple at a, each item in a new pair with its number -/
def ItE (K : PySem.W.Frag) (a : Addr) (xs : List V) : It :=
  ⟨fun i H => SqT K H a xs ∧ i < xs.length, fun i H v H' => ∃ T x, v = .ref T ∧ H T = none ∧ H' = upd H T (.tup [.int (i : Nat), x]) ∧ xs[i]? = some x, fun i H => SqT K H a xs ∧ i = xs.length⟩
theorem turn_enT {P : Program} {w : World} {K : PySem.W.Frag} {elts : List Expr} {kk : Nat} {tpos : Pos} {xs : List V} {its : List Value} (a e it : Addr) (rv : Vals xs its) (hae : a ≠ it) :
    Turn P w K (.Tuple elts kk tpos) (ItE K a xs) [e, it] e (fun i h => (∃ old, IsEnum h e it ((i : Nat) : Int) old) ∧ h.IsTupleIter it a i ∧ e ≠ it ∧ e ≠ a) where
  mem := by simp
  obj := fun i h st b hb => by
    obtain ⟨⟨old, he⟩, ⟨o, ho, hc, hd⟩, _⟩ := st
    have e' : b = e ∨ b = it := by simpa using hb
    rcases e' with z | z
    · subst z
      exact ⟨_, he, fun v q => nomatch q⟩
    · exact ⟨o, by rw [z]; exact ho, fun v q => by rw [hd] at q; cases q⟩
  keep := fun i h h' st k => let ⟨⟨old, he⟩, hi, hne⟩ := st; ⟨⟨old, k e (by simp) _ he⟩, hi.at fun o q => k it (by simp) o q, hne⟩
  item := by
    intro X hP hw hK hc i pins s σ H E I hf st hg
    subst hP hw hK
    obtain ⟨⟨old, he⟩, hit, hne, hea⟩ := st
    obtain ⟨hq, hlt⟩ := hg
    obtain ⟨its', rv', p, hz⟩ := I.tuple hq
    obtain ⟨x, hx⟩ : ∃ x, xs[i]? = some x := ⟨xs[i], List.getElem?_eq_getElem hlt⟩
    obtain ⟨u, hu, ru⟩ := rv'.get hx
    have hel : e < s.heap.objs.size := Heap.lt_size he
    have hil : it < s.heap.objs.size := by obtain ⟨_, q, _⟩ := hit; exact Heap.lt_size q
    have D := Draws.tuple (prog := X.prog) (w := X.w) (A := X.A.in1) (I.ok.hd hc) it a hae its'.toArray
    have hsz : i < its'.toArray.size := by rw [List.size_toArray, ← rv'.length]; exact hlt
    refine wpAny_pyNext_enum_itemD D he ⟨hit, p⟩ hsz hne (by simp; exact ⟨hne, hea⟩) fun u' h' tk hP ho hs' hT hsz' hk => ?_
    have eu : u' = u := by
      have z : its'.toArray[i]? = some u := by simpa using hu
      rw [z] at hP
      exact (Option.some.inj hP).symm
    subst eu
    refine ⟨_, rfl, wpAny_letOwnedTupleGo_enum (s := { s with heap := h', toks := tk + 1 }) ho fun h'' he' sb => ?_⟩
    have hT2 : h''.get? s.heap.objs.size = some { cls := .type "tuple", data := .seq #[.int i tk, u'] } := (sb.2 _ (Nat.ne_of_gt hel)).trans hT
    have new : ObjOk X.prog X.w (upd H s.heap.objs.size (.tup [.int (i : Nat), x])) h'' s.heap.objs.size (.tup [.int (i : Nat), x]) :=
      ⟨by show 2 ≤ sizeLine; decide, [.int i tk, u'], .cons ⟨_, rfl⟩ (.cons ru .nil), ⟨_, hT2, rfl, _, rfl⟩⟩
    have I1 : Inv X pins σ (upd H s.heap.objs.size (.tup [.int (i : Nat), x])) { s with heap := h'', toks := tk + 1 } :=
      I.turnedNew (ch := [e, it]) (fun b ob hb q => (sb.2 b (fun z => hb (by simp [z]))).trans (hk b ob (fun z => hb (by simp [z])) (fun z => hb (by simp [z])) q)) hf (Nat.le_refl _) new
    refine ⟨.ref s.heap.objs.size, _, I1, rfl, ⟨_, x, rfl, I.hok.fresh (Nat.le_refl _), rfl, hx⟩, ⟨⟨u', ?_⟩, hs'.1.at fun o q => (sb.2 it (Ne.symm hne)).trans q, hne, hea⟩, fun b hb => ?_⟩
    · rw [show ((i + 1 : Nat) : Int) = (i : Int) + 1 by omega]
      exact he'
    · have hb' : b < s.heap.objs.size := by
        have e' : b = e ∨ b = it := by simpa using hb
        rcases e' with z | z <;> (rw [z]; assumption)
      rw [upd_ne (Nat.ne_of_lt hb')]
      exact (hf b hb).1
  done := by
    intro X hP hw hK hc i pins s σ H E I hf st hg
    subst hP hw hK
    obtain ⟨⟨old, he⟩, hit, hne, hea⟩ := st
    obtain ⟨hq, hx⟩ := hg
    obtain ⟨its', rv', p, hz⟩ := I.tuple hq
    obtain ⟨f0, f1, f2, f3, f4, f5⟩ := hf it (by simp)
    have hl := rv'.length
    have D := Draws.tuple (prog := X.prog) (w := X.w) (A := X.A.in1) (I.ok.hd hc) it a hae its'.toArray
    have hi : its'.toArray.size = i := by rw [List.size_toArray, ← hl, hx]
    rw [hi] at D
    exact wpAny_pyNext_enum_endD D he ⟨hit, p⟩ fun h' eb => ⟨rfl, I.turned (t' := s.toks) (fun b o hb q => eb b o hb q) f0 f1 f3 f4 f5⟩
  self := fun A i s Q E st h => let ⟨⟨_, he⟩, _⟩ := st; wpAny_pyIter_enum he h
def iEnT (K : PySem.W.Frag) (ta : TA) : TI := fun σ H R => ta σ H fun vs H1 => ∃ a xs, vs = [.ref a] ∧ SqT K H1 a xs ∧ R (ItE K a xs) H1
theorem pi_enT {X : Cx} {e : Expr} {ta : TA} {p pos tpos : Pos} {elts : List Expr} {kk : Nat} (hg : Gl X "enumerate") (hm : X.mg "enumerate" = none) (ha : PA X [e] ta) (hs : starEach [e] X.env = [(false, eval e X.env)] := by rfl) :
    PI X (.Tuple elts kk tpos) (.Call (.Name "enumerate" p) [e] [] pos) (iEnT X.K ta) := by
  refine ⟨fun pins s σ H R I h => ?_⟩
  refine Call_ (ld_blt I hg hm boot_enumerate (PyProof.Rows.callWith_type1 (thn (ha.run pos pins s σ H _ I h) fun us s1 ⟨vs, H1, I1, r1, q1⟩ => ?_) hs rfl))
  obtain ⟨a, xs, ex, hq, q⟩ := q1
  subst ex
  obtain rfl := Vals.ref1 r1
  obtain ⟨its, rv, p', hz⟩ := I1.tuple hq
  have hal : a < s1.heap.objs.size := p'.lt
  refine call_enum1 (begins_tuple a its.toArray) p' fun h' he hit hk => wpAny_pyIter_enum he ?_
  have I2 : Inv X pins σ H1 { s1 with heap := h' } := I1.kept (t' := s1.toks) hk
  refine ⟨s1.heap.objs.size + 1, [s1.heap.objs.size + 1, s1.heap.objs.size], _, _, H1, rfl, I2, turn_enT a (s1.heap.objs.size + 1) s1.heap.objs.size rv (Nat.ne_of_lt hal),
    ⟨⟨.none, he⟩, ⟨_, hit, rfl, rfl⟩, Nat.succ_ne_self _, Nat.ne_of_gt (Nat.lt_succ_of_lt hal)⟩, fun b hb => ?_, q⟩
  have e' : b = s1.heap.objs.size + 1 ∨ b = s1.heap.objs.size := by simpa using hb
  have hle : s1.heap.objs.size ≤ b := by
    rcases e' with z | z
    · rw [z]; exact Nat.le_add_right _ _
    · rw [z]; exact Nat.le_refl _
  exact I1.fpOk hle (I1.hok.fresh hle)
theorem walk_enT {K : PySem.W.Frag} {a : Addr} {xs : List V} : Walk (ItE K a xs) xs.length (fun H => SqT K H a xs) (YPair (fun i => some (.int (i : Nat))) (fun i => xs[i]?)) :=
  ⟨fun i _ hi q => ⟨q, hi⟩, fun _ q => ⟨q, rfl⟩, fun i H v H' _ q y => by
    obtain ⟨T, x, h1, h2, h3, h4⟩ := y
    exact ⟨T, .int (i : Nat), x, h1, h2, h3, rfl, h4⟩⟩
theorem walk_zpT {K : PySem.W.Frag} {a b : Addr} {xs ys : List V} {n : Nat} (hn : n = min xs.length ys.length) : Walk (RZ.ItzT K a b) n (fun H => SqT K H a xs ∧ SqT K H b ys) (YPair (fun i => xs[i]?) (fun i => ys[i]?)) := by
  subst hn
  refine ⟨fun i _ hi q => ?_, fun _ q => ⟨xs, ys, q.1, q.2, by omega⟩, fun i H v H' _ q y => ?_⟩
  · have h1 : i < xs.length := by omega
    have h2 : i < ys.length := by omega
    exact ⟨xs, ys, xs[i], ys[i], q.1, q.2, List.getElem?_eq_getElem h1, List.getElem?_eq_getElem h2⟩
  · obtain ⟨T, x, z, h1, h2, h3, h4, h5⟩ := y
    exact ⟨T, x, z, h1, h2, h3, h4 xs q.1, h5 ys q.2⟩

/-! ### *range(..) -/
def tStarRg (te : L2.St → Hp → (Int → Int → Hp → Prop) → Prop) (t : TA) : TA := fun σ H Q => te σ H fun a b H1 => RgOk a b ∧ t σ H1 fun ys H2 => Q (rgV a b ++ ys) H2
theorem pa_starRg {X : Cx} {e : Expr} {es : List Expr} {p : Pos} {te : L2.St → Hp → (Int → Int → Hp → Prop) → Prop} {t : TA} (hc : X.calm = true) (he : PRg X e te) (hr : PA X es t) (hs : starEach (.Starred e p :: es) X.env = (true, eval e X.env) :: starEach es X.env := by rfl) :
    PA X (.Starred e p :: es) (tStarRg te t) := by
  refine ⟨fun pos pins s σ H Q I h => ?_⟩
  refine PySem.W.items_star (thn (he pins s σ H _ I h) fun v s1 ⟨r, a, b, t1, u1, v1, H1, ev, hrg, I1, ok, q⟩ => ?_) hs
  subst ev
  have hT : s1.TypeIs (.ref r) "range" := ⟨_, hrg, rfl⟩
  unfold PySem.W.StarOf notIterableAtAll
  refine wpAny_bind (wpAny_specialOf hT PySem.F.slot_range_iter.lookup (wpAny_pure ⟨rfl, ?_⟩))
  obtain ⟨b1, b2, b3, b4, b5⟩ := ok
  refine collect_range (n := (b - a).toNat) (I1.ok.hd hc) hrg (small_one b1 b2 b3 b4) (rangeSize_nat a b) b5 fun h' tk acc hk hi => ?_
  have I2 : Inv X pins σ H1 { s1 with heap := h', toks := tk } := I1.kept hk
  exact thn (hr.run pos pins _ σ H1 _ I2 q) fun ws s3 ⟨vs, H3, I3, r3, q3⟩ => ⟨rgV a b ++ vs, H3, I3, (vals_rg hi).append r3, q3⟩
end Nx
set_option maxHeartbeats 4000000
/-! rules that the layer lacks, 3: set(list of ints) -/
namespace Nx
open PySem PySem.Spec PyProof.Rows L2
abbrev newSet (w : World) : Obj := { cls := .type "set", dict := none, data := .set #[] 0 (.fresh 0 0 (!w.params.followText "set-order")) }
section
variable {P : Program} {w : World} {A : Around} {E : Value → Shared → Prop} {s : Shared}
theorem call_set_lsI {l : Addr} {its : Array Value} (ns : List Int) {Q : Value → Shared → Prop} (hh : A.handled = none) (hl : s.heap.IsList l its) (hit : IntsAre its.toList ns) (hb : ns.length + 1 < scanBound)
    (h : ∀ (h' : Heap) (tk c : Nat), SetR w h' s.heap.objs.size (fun j => decide (j ∈ ns)) c → c ≤ ns.length → (∀ b o, s.heap.get? b = some o → h'.get? b = some o) → Q (.ref s.heap.objs.size) { s with heap := h', toks := tk }) :
    wpAny (model P w) A (call (.type "set") [.ref l]) Q E s := by
  have hsz : its.size = ns.length := by
    have q := IntsAre.length hit
    rwa [Array.length_toList] at q
  obtain ⟨c, tl, hmro⟩ := F.called_set.mro
  have hmade := F.called_set.made
  have hsub := F.called_set.sub
  refine wpAny_call (codeAny_of_tree ?_)
  show wpAny _ _ (callAny (.type "set") _) _ _ _
  refine wpAny_pure ⟨Code.quiet_builtin _ (by decide +kernel), codeAny_builtin F.entry_type_call ?_⟩
  rw [Around.under_plain (weight_type_call_type "set" [.ref l] []) rfl]
  have h1 := F.called_set.notType
  have h2 := F.called_set.canCreate
  have hct := F.typeCall_set_1 (.ref l)
  repeat (any_goals (first | assumption | wp_step))
  refine codeAny_mono (code_set_led1 (.ref l) (E := E) (Q₁ := fun obj s₁ => obj = .ref s.heap.objs.size ∧ s₁ = { s with heap := s.heap.push (newSet w) }) ⟨rfl, rfl⟩) fun r s₁ hr => ?_
  cases r with
  | error e => exact hr
  | ok fl =>
    cases fl with
    | ret obj =>
      obtain ⟨rfl, rfl⟩ := hr
      have hS : (s.heap.push (newSet w)).get? s.heap.objs.size = some (newSet w) := Heap.get?_push_size _ rfl
      have hT : Shared.TypeIs { s with heap := s.heap.push (newSet w) } (.ref s.heap.objs.size) "set" := ⟨_, hS, rfl⟩
      have hli := F.called_set.init.lookup
      have hbi := F.called_set.init.bind (.ref s.heap.objs.size)
      repeat (any_goals (first | assumption | wp_step))
      refine codeAny_mono (codeAny_call_builtin (R := wants (fun r s₂ => r = .none ∧ ∃ h' tk c, s₂ = { s with heap := h', toks := tk } ∧ SetR w h' s.heap.objs.size (fun j => decide (j ∈ ns)) c ∧ c ≤ ns.length ∧
          (∀ b o, s.heap.get? b = some o → h'.get? b = some o)) E) F.called_set.init.plain F.entry_set_init (check_set_init_1 hT ?_)) fun r₂ s₂ hr₂ => ?_
      · obtain ⟨⟨ocls, odict, odata, oslots⟩, hol, hcl, nl, hdl⟩ := hl
        simp only at hcl hdl
        subst hcl
        subst hdl
        have hol' : (s.heap.push (newSet w)).get? l = some { cls := .type "list", dict := odict, data := .seq its nl, slots := oslots } := Heap.get?_push_of_some _ hol
        have hsls := F.sub_list_set
        have hslf := F.sub_list_frozenset
        have hne : (Value.type "list" == Value.type "dict") = false := by decide
        have hl1 : (s.heap.push (newSet w)).IsList l its := ⟨_, hol', rfl, nl, rfl⟩
        unfold Builtin.«set.__init__» noKeywords Builtin.Frozenset.updateFrom
        generalize hPI : pyIter = PI
        wp_walk
        subst hPI
        refine wpAny_pyIter_list hl1 (wpAny_bind (wpAny_runValue ?_))
        have hlS : l < s.heap.objs.size := Heap.lt_size hol
        have hh3 : A.in1.in1.in1.handled = none := by simp [hh]
        have hz1 : (s.heap.push (newSet w)).objs.size = s.heap.objs.size + 1 := Heap.size_push ..
        have hneI : l ≠ (s.heap.push (newSet w)).objs.size := by
          rw [hz1]
          exact Nat.ne_of_lt (Nat.lt_succ_of_lt hlS)
        have hSf : s.heap.objs.size ∉ [(s.heap.push (newSet w)).objs.size, l] := by
          rw [hz1]
          simp only [List.mem_cons, List.not_mem_nil, or_false, not_or]
          exact ⟨Nat.ne_of_lt (Nat.lt_succ_self _), Nat.ne_of_gt hlS⟩
        have hval : ∀ (i : Nat) (v : Value), its[i]? = some v → ∃ k t, ns[i]? = some k ∧ v = .int k t := fun i v hv => by
          have hi : i < ns.length := by rw [← hsz]; exact (Array.getElem?_eq_some_iff.mp hv).1
          obtain ⟨t, e⟩ := PyProof.Rows.IntsAre.int_at hit i v (by rw [Array.getElem?_toList]; exact hv)
          refine ⟨ns[i], t, List.getElem?_eq_getElem hi, ?_⟩
          rw [e, List.getD_eq_getElem?_getD, List.getElem?_eq_getElem hi] <;> rfl
        refine set_update_ints ((Walks.list hh3 _ l hneI its).toS) s.heap.objs.size hSf ns hsz hb hval (its.size - 0) 0 _ (by omega) (Nat.zero_le _) ⟨⟨_, Heap.get?_push_size _ rfl, rfl, rfl⟩, (hl1.push _)⟩ ?hS0 ?hR
        case hS0 =>
          exact ⟨0, Nat.le_refl 0, setR_new_at (Heap.get?_push_of_some _ hS)⟩
        case hR =>
          intro s' c' hm hc' hS'
          obtain ⟨h', g2, d', tk', os'⟩ := s'
          have eg : g2 = s.gens := hm.gens
          have ed : d' = s.drawn := hm.drawn
          have eo : os' = s.os := hm.os
          subst eg ed eo
          show wpAny _ _ _ _ _ _
          refine wpAny_pure ?_
          show wpAny _ _ (ret Value.none) _ _ _
          rw [hsz] at hc'
          refine wpAny_pure ⟨rfl, h', tk', c', rfl, hS', hc', fun b o e => ?_⟩
          have hb0 : b < s.heap.objs.size := Heap.lt_size e
          have hb2 : b ≠ (s.heap.push (newSet w)).objs.size := by
            rw [hz1]
            exact Nat.ne_of_lt (Nat.lt_succ_of_lt hb0)
          refine hm.heap b o ?_ (Heap.get?_push_of_some _ (Heap.get?_push_of_some _ e))
          simp only [List.mem_cons, List.not_mem_nil, or_false, not_or]
          exact ⟨Nat.ne_of_lt hb0, hb2⟩
      · cases r₂ with
        | error e => exact hr₂
        | ok fl₂ =>
          cases fl₂ with
          | ret r =>
            obtain ⟨rfl, h', tk, c', rfl, hS', hc', hk'⟩ := hr₂
            repeat (any_goals (first | assumption | wp_step))
            exact h _ _ _ hS' hc' hk'
          | _ => exact hr₂.elim
    | _ => exact hr.elim
end
/-- set(xs), xs a list of ints -/
def rSetL (K : PySem.W.Frag) (w : World) : List V → Hp → VK → Prop := fun vs H Q => ∃ (a : Addr) (ns : List Int), vs = [.ref a] ∧ SqL K H a (ns.map V.int) ∧ ns.length ≤ 1000 ∧
  ∀ p n, H p = none → n ≤ ns.length → Q (.ref p) (upd H p (SetO w p (fun j => decide (j ∈ ns)) n))
theorem cr_setL {X : Cx} (hc : X.calm = true) : CallR X (.type "set") (rSetL X.K X.w) := by
  intro pins s σ H vs us Q I r h
  obtain ⟨a, ns, rfl, hq, hl, q⟩ := h
  obtain rfl := Vals.ref1 r
  obtain ⟨its, rv, pl, hz⟩ := I.list hq
  refine call_set_lsI ns (I.ok.hd hc) pl.isList (by simpa using rv.ints) (by unfold scanBound; omega) fun h' tk c R hcn k => ?_
  exact ⟨.ref s.heap.objs.size, _, I.laid (t' := tk) k (Nat.le_refl _) (setO_new R), rfl, q _ c (I.hok.fresh (Nat.le_refl _)) hcn⟩
end Nx
set_option maxHeartbeats 4000000
/-! the layer over data, 1: what slots hold, what expressions come to, statements, loops -/
namespace Nx
open PySem PySem.Spec PyProof.Rows L2

/-! ### data that stands in the abstract heap -/
mutual
inductive Da (H : Hp) : V → PyData → Prop
  | non : Da H .non .none
  | bl (b : Bool) : Da H (.bl b) (.bool b)
  | int (i : Int) : Da H (.int i) (.int i)
  | str (x : Str) : Da H (.str x) (.str x)
  | lst {a : Addr} {xs : List V} {ds : List PyData} : H a = some (.lst xs) → DaAll H xs ds → Da H (.ref a) (.list ds)
  | tup {a : Addr} {xs : List V} {ds : List PyData} : H a = some (.tup xs) → DaAll H xs ds → Da H (.ref a) (.tuple ds)
inductive DaAll (H : Hp) : List V → List PyData → Prop
  | nil : DaAll H [] []
  | cons {v : V} {vs : List V} {d : PyData} {ds : List PyData} : Da H v d → DaAll H vs ds → DaAll H (v :: vs) (d :: ds)
end
/-- all lists and tuples of H stay -/
def SL (H H' : Hp) : Prop := ∀ b o, (∃ xs, o = .lst xs ∨ o = .tup xs) → H b = some o → H' b = some o
mutual
theorem Da.mono {H H' : Hp} (e : SL H H') : ∀ {d : PyData} {v : V}, Da H v d → Da H' v d
  | .none, _, h => by cases h; exact .non
  | .bool b, _, h => by cases h; exact .bl b
  | .int i, _, h => by cases h; exact .int i
  | .str x, _, h => by cases h; exact .str x
  | .list ds, _, h => by
    cases h with
    | lst hs ha => exact .lst (e _ _ ⟨_, .inl rfl⟩ hs) (DaAll.mono e ha)
  | .tuple ds, _, h => by
    cases h with
    | tup hs ha => exact .tup (e _ _ ⟨_, .inr rfl⟩ hs) (DaAll.mono e ha)
  | .dict _, _, h => by cases h
theorem DaAll.mono {H H' : Hp} (e : SL H H') : ∀ {ds : List PyData} {vs : List V}, DaAll H vs ds → DaAll H' vs ds
  | [], _, h => by cases h; exact .nil
  | d :: ds, _, h => by
    cases h with
    | cons h1 h2 => exact .cons (Da.mono e h1) (DaAll.mono e h2)
end
mutual
theorem Da.dp {K : PySem.W.Frag} {H : Hp} : ∀ {d : PyData} {v : V}, Da H v d → Dp K H v d
  | .none, _, h => by cases h; exact .non
  | .bool b, _, h => by cases h; exact .bl b
  | .int i, _, h => by cases h; exact .int i
  | .str x, _, h => by cases h; exact .str x
  | .list ds, _, h => by
    cases h with
    | lst hs ha => exact .lst (SqL.of hs) (DaAll.dp ha)
  | .tuple ds, _, h => by
    cases h with
    | tup hs ha => exact .tup (SqT.of hs) (DaAll.dp ha)
  | .dict _, _, h => by cases h
theorem DaAll.dp {K : PySem.W.Frag} {H : Hp} : ∀ {ds : List PyData} {vs : List V}, DaAll H vs ds → DpAll K H vs ds
  | [], _, h => by cases h; exact .nil
  | d :: ds, _, h => by
    cases h with
    | cons h1 h2 => exact .cons (Da.dp h1) (DaAll.dp h2)
end
theorem SL.of {H H' : Hp} (e : Same H H') : SL H H' := fun b o _ h => e b o h
/-- data without lists stays while the tuples stay -/
def TupS (H H' : Hp) : Prop := ∀ b xs, H b = some (.tup xs) → H' b = some (.tup xs)
mutual
theorem Da.monoT {H H' : Hp} (e : TupS H H') : ∀ {d : PyData} {v : V}, flatD d = true → Da H v d → Da H' v d
  | .none, _, _, h => by cases h; exact .non
  | .bool b, _, _, h => by cases h; exact .bl b
  | .int i, _, _, h => by cases h; exact .int i
  | .str x, _, _, h => by cases h; exact .str x
  | .list ds, _, f, h => by cases f
  | .tuple ds, _, f, h => by
    rw [flatD] at f
    cases h with
    | tup hs ha => exact .tup (e _ _ hs) (DaAll.monoT e f ha)
  | .dict _, _, _, h => by cases h
theorem DaAll.monoT {H H' : Hp} (e : TupS H H') : ∀ {ds : List PyData} {vs : List V}, flatDs ds = true → DaAll H vs ds → DaAll H' vs ds
  | [], _, _, h => by cases h; exact .nil
  | d :: ds, _, f, h => by
    rw [flatDs, Bool.and_eq_true] at f
    cases h with
    | cons h1 h2 => exact .cons (Da.monoT e f.1 h1) (DaAll.monoT e f.2 h2)
end
theorem DaAll.len {H : Hp} : ∀ {ds : List PyData} {vs : List V}, DaAll H vs ds → vs.length = ds.length
  | [], _, h => by cases h; rfl
  | d :: ds, _, h => by
    cases h with
    | cons h1 h2 => rw [List.length_cons, List.length_cons, DaAll.len h2]
theorem DaAll.get {H : Hp} : ∀ {ds : List PyData} {vs : List V} {i : Nat} {v : V}, DaAll H vs ds → vs[i]? = some v → ∃ d, ds[i]? = some d ∧ Da H v d
  | [], _, i, v, h, e => by cases h; simp at e
  | d :: ds, _, i, v, h, e => by
    cases h with
    | cons h1 h2 =>
      cases i with
      | zero => simp at e; subst e; exact ⟨d, rfl, h1⟩
      | succ i =>
        simp at e
        obtain ⟨d', h3, h4⟩ := DaAll.get h2 e
        exact ⟨d', by simpa using h3, h4⟩
theorem DaAll.got {H : Hp} : ∀ {ds : List PyData} {vs : List V} {i : Nat} {d : PyData}, DaAll H vs ds → ds[i]? = some d → ∃ v, vs[i]? = some v ∧ Da H v d
  | [], _, i, v, h, e => by cases h; simp at e
  | d :: ds, _, i, v, h, e => by
    cases h with
    | cons h1 h2 =>
      cases i with
      | zero => simp at e; subst e; exact ⟨_, rfl, h1⟩
      | succ i =>
        simp at e
        obtain ⟨d', h3, h4⟩ := DaAll.got h2 e
        exact ⟨d', by simpa using h3, h4⟩
theorem DaAll.app {H : Hp} : ∀ {ds es : List PyData} {vs ws : List V}, DaAll H vs ds → DaAll H ws es → DaAll H (vs ++ ws) (ds ++ es)
  | [], _, _, _, h, g => by cases h; exact g
  | d :: ds, _, _, _, h, g => by
    cases h with
    | cons h1 h2 => exact .cons h1 (DaAll.app h2 g)
/-- scalars -/
def vOf : PyData → V
  | .none => .non
  | .bool b => .bl b
  | .int i => .int i
  | .str x => .str x
  | _ => .non
def isNon : PyData → Bool
  | .none => true
  | _ => false
def isSc : PyData → Bool
  | .none => true
  | .bool _ => true
  | .int _ => true
  | .str _ => true
  | _ => false
theorem Da.sc {H : Hp} {d : PyData} {v : V} (s : isSc d = true) (h : Da H v d) : v = vOf d := by
  cases h <;> first | rfl | exact absurd s Bool.false_ne_true
theorem da_sc {H : Hp} {d : PyData} (s : isSc d = true) : Da H (vOf d) d := by
  cases d with
  | none => exact .non
  | bool b => exact .bl b
  | int i => exact .int i
  | str x => exact .str x
  | _ => exact absurd s Bool.false_ne_true
theorem DaAll.sc {H : Hp} : ∀ {ds : List PyData} {vs : List V}, ds.all isSc = true → DaAll H vs ds → vs = ds.map vOf
  | [], _, _, h => by cases h; rfl
  | d :: ds, _, s, h => by
    rw [List.all_cons, Bool.and_eq_true] at s
    cases h with
    | cons h1 h2 => rw [h1.sc s.1, DaAll.sc s.2 h2]; rfl
theorem das_sc {H : Hp} : ∀ {ds : List PyData}, ds.all isSc = true → DaAll H (ds.map vOf) ds
  | [], _ => .nil
  | d :: ds, s => by
    rw [List.all_cons, Bool.and_eq_true] at s
    exact .cons (da_sc s.1) (das_sc s.2)
theorem sc_ints (ns : List Int) : (ns.map PyData.int).all isSc = true ∧ (ns.map PyData.int).map vOf = ns.map V.int := by
  constructor
  · rw [List.all_eq_true]
    intro d hd
    obtain ⟨n, _, rfl⟩ := List.mem_map.mp hd
    rfl
  · rw [List.map_map]
    rfl
theorem sc_strs (ns : List Str) : (ns.map PyData.str).all isSc = true ∧ (ns.map PyData.str).map vOf = ns.map V.str := by
  constructor
  · rw [List.all_eq_true]
    intro d hd
    obtain ⟨n, _, rfl⟩ := List.mem_map.mp hd
    rfl
  · rw [List.map_map]
    rfl
theorem sc_bls (ns : List Bool) : (ns.map PyData.bool).all isSc = true ∧ (ns.map PyData.bool).map vOf = ns.map V.bl := by
  constructor
  · rw [List.all_eq_true]
    intro d hd
    obtain ⟨n, _, rfl⟩ := List.mem_map.mp hd
    rfl
  · rw [List.map_map]
    rfl

/-! ### where one stands -/
inductive Slv where
  | unk
  | dat (d : PyData)
  | adr (a : Addr)
/-- the heap without what is one's own to change -/
def cut (O : List Addr) (H : Hp) : Hp := fun a => if a ∈ O then none else H a
/-- all but U stays -/
def SameB (U : List Addr) (H H' : Hp) : Prop := ∀ b o, b ∉ U → H b = some o → H' b = some o
theorem Same.sb {U : List Addr} {H H' : Hp} (e : Same H H') : SameB U H H' := fun b o _ h => e b o h
theorem SameB.same {H H' : Hp} (e : SameB [] H H') : Same H H' := fun b o h => e b o (by simp) h
theorem SameB.refl (U : List Addr) (H : Hp) : SameB U H H := fun _ _ _ h => h
theorem SameB.trans {U : List Addr} {H H1 H2 : Hp} (a : SameB U H H1) (b : SameB U H1 H2) : SameB U H H2 := fun x o n h => b x o n (a x o n h)
theorem SameB.wide {U U' : List Addr} {H H' : Hp} (e : SameB U H H') (h : ∀ a ∈ U, a ∈ U') : SameB U' H H' := fun b o n q => e b o (fun z => n (h b z)) q
theorem cut_same {O : List Addr} {H : Hp} : Same (cut O H) H := fun b o h => by
  unfold cut at h
  split at h
  · cases h
  · exact h
theorem cut_sb {O U : List Addr} {H H' : Hp} (hU : ∀ a ∈ U, a ∈ O) (e : SameB U H H') : Same (cut O H) (cut O H') := fun b o h => by
  unfold cut at h ⊢
  split at h
  · cases h
  · rename_i hb
    rw [if_neg hb]
    exact e b o (fun z => hb (hU b z)) h
theorem cut_mono {O : List Addr} {H H' : Hp} (e : Same H H') : Same (cut O H) (cut O H') := cut_sb (U := []) (fun _ z => by cases z) (Same.sb e)
theorem cut_nil {H : Hp} : cut [] H = H := by
  funext a
  unfold cut
  rw [if_neg (by simp)]
theorem cut_more {O O' : List Addr} {H : Hp} (h : ∀ a ∈ O, a ∈ O') : Same (cut O' H) (cut O H) := fun b o e => by
  unfold cut at e ⊢
  split at e
  · cases e
  · rename_i hb
    rw [if_neg fun z => hb (h b z)]
    exact e
theorem cut_at {O : List Addr} {H : Hp} {a : Addr} (h : a ∉ O) : cut O H a = H a := by
  unfold cut
  rw [if_neg h]
theorem cut_own {O : List Addr} {H : Hp} {a : Addr} {o : HO} (h : a ∈ O) : cut O (upd H a o) = cut O H := by
  funext b
  unfold cut
  by_cases hb : b ∈ O
  · rw [if_pos hb, if_pos hb]
  · rw [if_neg hb, if_neg hb, upd_ne (fun z => hb (by rw [z]; exact h))]
theorem cut_cons {O : List Addr} {H : Hp} {a : Addr} (h : H a = none) : cut (a :: O) H = cut O H := by
  funext b
  unfold cut
  by_cases hb : b ∈ O
  · rw [if_pos hb, if_pos (List.mem_cons_of_mem _ hb)]
  · rw [if_neg hb]
    by_cases e : b = a
    · rw [if_pos (by rw [e]; exact List.mem_cons_self), e, h]
    · rw [if_neg (fun z => (List.mem_cons.mp z).elim e hb)]
theorem cut_new {O : List Addr} {H : Hp} {a : Addr} {o : HO} (h : H a = none) : cut (a :: O) (upd H a o) = cut O H := by
  rw [cut_own List.mem_cons_self, cut_cons h]

/-- the slots' data Γ over what is not one's own (O); what has stayed since the marked heaps Bs -/
structure Ats (O : List Addr) (Bs : List (List Addr × Hp)) (σ : L2.St) (H : Hp) (Γ : List Slv) : Prop where
  dom : ∀ a ∈ O, H a ≠ none
  ex : ∀ p ∈ Bs, SameB p.1 p.2 H
  len : σ.length = Γ.length
  val : ∀ (i : Nat) (d : PyData), Γ[i]? = some (Slv.dat d) → ∃ v : V, σ[i]? = some (some v) ∧ Da (cut O H) v d
  adr : ∀ (i : Nat) (a : Addr), Γ[i]? = some (Slv.adr a) → σ[i]? = some (some (V.ref a))
section
variable {O : List Addr} {Bs : List (List Addr × Hp)} {σ : L2.St} {H H' : Hp} {Γ : List Slv}
theorem Ats.fresh (A : Ats O Bs σ H Γ) {p : Addr} (h : H p = none) : p ∉ O := fun z => A.dom p z h
/-- the heap moved: U changed at most, U one's own and marked -/
theorem Ats.moved {U : List Addr} (A : Ats O Bs σ H Γ) (e : SameB U H H') (hU : ∀ a ∈ U, a ∈ O) (hd : ∀ a ∈ U, H' a ≠ none) (hB : ∀ p ∈ Bs, ∀ a ∈ U, a ∈ p.1 ∨ p.2 a = none) : Ats O Bs σ H' Γ where
  dom := fun a ha => by
    by_cases h : a ∈ U
    · exact hd a h
    · intro z
      have := A.dom a ha
      cases q : H a with
      | none => exact this q
      | some o => rw [e a o h q] at z; cases z
  ex := fun p hp b o hb q => by
    refine e b o (fun z => ?_) (A.ex p hp b o hb q)
    rcases hB p hp b z with c | c
    · exact hb c
    · rw [c] at q; cases q
  len := A.len
  val := fun i d h => let ⟨v, h1, h2⟩ := A.val i d h; ⟨v, h1, h2.mono (SL.of (cut_sb hU e))⟩
  adr := A.adr
theorem Ats.mono (A : Ats O Bs σ H Γ) (e : Same H H') : Ats O Bs σ H' Γ :=
  A.moved (U := []) (Same.sb e) (fun _ z => by cases z) (fun _ z => by cases z) (fun _ _ _ z => by cases z)
theorem Ats.set {i : Nat} {v : V} {d : PyData} (A : Ats O Bs σ H Γ) (h : Da (cut O H) v d) : Ats O Bs (σ.set i (some v)) H (Γ.set i (.dat d)) where
  dom := A.dom
  ex := A.ex
  len := by rw [List.length_set, List.length_set, A.len]
  val := fun j d' hj => by
    rw [List.getElem?_set] at hj
    by_cases e : i = j
    · subst e
      rw [if_pos rfl] at hj
      split at hj
      · rename_i hl
        cases hj
        exact ⟨v, by rw [List.getElem?_set_self (by rw [A.len]; exact hl)], h⟩
      · cases hj
    · rw [if_neg e] at hj
      rw [List.getElem?_set_ne e]
      exact A.val j d' hj
  adr := fun j a hj => by
    rw [List.getElem?_set] at hj
    by_cases e : i = j
    · subst e
      rw [if_pos rfl] at hj
      split at hj <;> cases hj
    · rw [if_neg e] at hj
      rw [List.getElem?_set_ne e]
      exact A.adr j a hj
theorem Ats.setA {i : Nat} {a : Addr} (A : Ats O Bs σ H Γ) : Ats O Bs (σ.set i (some (.ref a))) H (Γ.set i (.adr a)) where
  dom := A.dom
  ex := A.ex
  len := by rw [List.length_set, List.length_set, A.len]
  val := fun j d' hj => by
    rw [List.getElem?_set] at hj
    by_cases e : i = j
    · subst e
      rw [if_pos rfl] at hj
      split at hj <;> cases hj
    · rw [if_neg e] at hj
      rw [List.getElem?_set_ne e]
      exact A.val j d' hj
  adr := fun j b hj => by
    rw [List.getElem?_set] at hj
    by_cases e : i = j
    · subst e
      rw [if_pos rfl] at hj
      split at hj
      · rename_i hl
        cases hj
        rw [List.getElem?_set_self (by rw [A.len]; exact hl)]
      · cases hj
    · rw [if_neg e] at hj
      rw [List.getElem?_set_ne e]
      exact A.adr j b hj
/-- forgetting -/
def wipeG (Γ : List Slv) : List Nat → List Slv
  | [] => Γ
  | v :: vs => (wipeG Γ vs).set v .unk
theorem Ats.unk {i : Nat} {x : Option V} (A : Ats O Bs σ H Γ) : Ats O Bs (σ.set i x) H (Γ.set i .unk) where
  dom := A.dom
  ex := A.ex
  len := by rw [List.length_set, List.length_set, A.len]
  val := fun j d' hj => by
    rw [List.getElem?_set] at hj
    by_cases e : i = j
    · subst e
      rw [if_pos rfl] at hj
      split at hj <;> cases hj
    · rw [if_neg e] at hj
      rw [List.getElem?_set_ne e]
      exact A.val j d' hj
  adr := fun j a hj => by
    rw [List.getElem?_set] at hj
    by_cases e : i = j
    · subst e
      rw [if_pos rfl] at hj
      split at hj <;> cases hj
    · rw [if_neg e] at hj
      rw [List.getElem?_set_ne e]
      exact A.adr j a hj
theorem Ats.wipe (A : Ats O Bs σ H Γ) : ∀ vs : List Nat, Ats O Bs (wipe σ vs) H (wipeG Γ vs)
  | [] => A
  | v :: vs => (Ats.wipe A vs).unk
theorem Ats.mark (A : Ats O Bs σ H Γ) (U : List Addr) : Ats O ((U, H) :: Bs) σ H Γ :=
  ⟨A.dom, fun p hp => by
    rcases List.mem_cons.mp hp with e | hp
    · rw [e]; exact SameB.refl _ _
    · exact A.ex p hp, A.len, A.val, A.adr⟩
theorem Ats.unmark {p : List Addr × Hp} (A : Ats O (p :: Bs) σ H Γ) : Ats O Bs σ H Γ := ⟨A.dom, fun q hq => A.ex q (List.mem_cons_of_mem _ hq), A.len, A.val, A.adr⟩
theorem Ats.own (A : Ats O Bs σ H Γ) {a : Addr} {o : HO} (h : H a = none) : Ats (a :: O) Bs σ (upd H a o) Γ where
  dom := fun b hb => by
    rcases List.mem_cons.mp hb with e | hb
    · rw [e, upd_same]; exact fun z => by cases z
    · rw [upd_ne (fun z => A.dom b hb (by rw [z]; exact h))]
      exact A.dom b hb
  ex := fun p hp b u hb q => by
    have z := A.ex p hp b u hb q
    rw [upd_ne (ne_of_none z h)]
    exact z
  len := A.len
  val := fun i d hi => let ⟨v, h1, h2⟩ := A.val i d hi; ⟨v, h1, by rw [cut_new h]; exact h2⟩
  adr := A.adr
theorem Ats.disown {a : Addr} (A : Ats (a :: O) Bs σ H Γ) : Ats O Bs σ H Γ where
  dom := fun b hb => A.dom b (List.mem_cons_of_mem _ hb)
  ex := A.ex
  len := A.len
  val := fun i d hi => let ⟨v, h1, h2⟩ := A.val i d hi; ⟨v, h1, h2.mono (SL.of (cut_more fun b hb => List.mem_cons_of_mem _ hb))⟩
  adr := A.adr
end
theorem same_upd {H : Hp} {p : Addr} {o : HO} (h : H p = none) : Same H (upd H p o) := fun b x e => by
  rw [upd_ne (ne_of_none e h)]
  exact e
/-- data in new tuples and lists -/
theorem da_tup {O : List Addr} {H : Hp} {p : Addr} {vs : List V} {ds : List PyData} (hd : ∀ a ∈ O, H a ≠ none) (h : H p = none) (ha : DaAll (cut O H) vs ds) : Da (cut O (upd H p (.tup vs))) (.ref p) (.tuple ds) :=
  .tup (by rw [cut_at fun z => hd p z h]; exact upd_same) (ha.mono (SL.of (cut_mono (same_upd h))))
theorem da_lst {O : List Addr} {H : Hp} {p : Addr} {vs : List V} {ds : List PyData} (hd : ∀ a ∈ O, H a ≠ none) (h : H p = none) (ha : DaAll (cut O H) vs ds) : Da (cut O (upd H p (.lst vs))) (.ref p) (.list ds) :=
  .lst (by rw [cut_at fun z => hd p z h]; exact upd_same) (ha.mono (SL.of (cut_mono (same_upd h))))

/-! ### what expressions come to -/
def EE (te : TE) (Γ : List Slv) (d : PyData) : Prop := ∀ O Bs σ H, Ats O Bs σ H Γ → ∀ Q : VK, (∀ v H2, Same H H2 → Da (cut O H2) v d → Q v H2) → te σ H Q
def ET (tt : TT) (Γ : List Slv) (b : Bool) : Prop := ∀ O Bs σ H, Ats O Bs σ H Γ → ∀ Q : Bool → Hp → Prop, (∀ H2, Same H H2 → Q b H2) → tt σ H Q
def EA (ta : TA) (Γ : List Slv) (ds : List PyData) : Prop := ∀ O Bs σ H, Ats O Bs σ H Γ → ∀ Q : List V → Hp → Prop, (∀ vs H2, Same H H2 → DaAll (cut O H2) vs ds → Q vs H2) → ta σ H Q
/-- operations on values -/
def OD (r : R2) (d1 d2 d : PyData) : Prop := ∀ O H x y, (∀ a ∈ O, H a ≠ none) → Da (cut O H) x d1 → Da (cut O H) y d2 → ∀ Q : VK, (∀ v H2, Same H H2 → Da (cut O H2) v d → Q v H2) → r x y H Q
def CD (r : List V → Hp → VK → Prop) (ds : List PyData) (d : PyData) : Prop := ∀ O H vs, (∀ a ∈ O, H a ≠ none) → DaAll (cut O H) vs ds → ∀ Q : VK, (∀ v H2, Same H H2 → Da (cut O H2) v d → Q v H2) → r vs H Q
def PD (sp : Sp) (ds : List PyData) (d : PyData) : Prop := ∀ O H vs, (∀ a ∈ O, H a ≠ none) → DaAll (cut O H) vs ds → ∀ (Q : VK) (E : XK), (∀ v H2, Same H H2 → Da (cut O H2) v d → Q v H2) → sp vs H Q E
/-- a def that comes to one datum for its arguments' data -/
def FD (R : List PyData → PyData → Prop) : Sp := fun vs H Q _ => ∃ O ds d, (∀ a ∈ O, H a ≠ none) ∧ DaAll (cut O H) vs ds ∧ R ds d ∧ ∀ v H2, Same H H2 → Da (cut O H2) v d → Q v H2
theorem FD.pd {R : List PyData → PyData → Prop} {ds : List PyData} {d : PyData} (h : R ds d) : PD (FD R) ds d := fun O H vs hd ha Q _ q => ⟨O, ds, d, hd, ha, h, q⟩
section
variable {Γ : List Slv} {ta tb te : TE} {t u : TT} {x y z d d1 d2 : PyData} {K : PySem.W.Frag}
theorem ee_var {i : Nat} (h : Γ[i]? = some (.dat d)) : EE (tVar i) Γ d := fun O Bs σ H A Q q => let ⟨v, h1, h2⟩ := A.val i d h; ⟨v, h1, q v H (Same.refl H) h2⟩
theorem ee_c (h : isSc d = true) : EE (tC (vOf d)) Γ d := fun O Bs σ H A Q q => q _ H (Same.refl H) (da_sc h)
theorem ee_int (i : Int) : EE (tC (.int i)) Γ (.int i) := ee_c rfl
theorem ee_str (i : Str) : EE (tC (.str i)) Γ (.str i) := ee_c rfl
theorem ee_bl (i : Bool) : EE (tC (.bl i)) Γ (.bool i) := ee_c rfl
theorem ee_non : EE (tC .non) Γ .none := ee_c (d := .none) rfl
theorem ee_op {r : R2} (ho : OD r d1 d2 d) (ha : EE ta Γ d1) (hb : EE tb Γ d2) : EE (tOp r ta tb) Γ d := fun O Bs σ H A Q q =>
  ha O Bs σ H A _ fun v1 H1 e1 h1 => hb O Bs σ H1 (A.mono e1) _ fun v2 H2 e2 h2 => ho O H2 v1 v2 ((A.mono e1).mono e2).dom (h1.mono (SL.of (cut_mono e2))) h2 Q fun v H3 e3 h3 => q v H3 ((e1.trans e2).trans e3) h3
theorem ee_is (h : EE te Γ d) (e : d = z) : EE te Γ z := e ▸ h
theorem ea_nil : EA tNil Γ [] := fun O Bs σ H A Q q => q [] H (Same.refl H) .nil
theorem ea_cons {tr : TA} {ds : List PyData} (h : EE te Γ d) (hr : EA tr Γ ds) : EA (tCons te tr) Γ (d :: ds) := fun O Bs σ H A Q q =>
  h O Bs σ H A _ fun v H1 e1 h1 => hr O Bs σ H1 (A.mono e1) _ fun vs H2 e2 h2 => q _ H2 (e1.trans e2) (.cons (h1.mono (SL.of (cut_mono e2))) h2)
theorem ee_tup {ta : TA} {ds : List PyData} (h : EA ta Γ ds) (hl : ds.length ≤ 1000) : EE (tTup ta) Γ (.tuple ds) := fun O Bs σ H A Q q =>
  h O Bs σ H A _ fun vs H1 e1 h1 => ⟨Nat.le_of_lt (small1000 (by rw [h1.len]; exact hl)), fun p hp => q _ _ (e1.trans (same_upd hp)) (da_tup (A.mono e1).dom hp h1)⟩
theorem ee_lst {ta : TA} {ds : List PyData} (h : EA ta Γ ds) (hl : ds.length ≤ 1000) : EE (tLst ta) Γ (.list ds) := fun O Bs σ H A Q q =>
  h O Bs σ H A _ fun vs H1 e1 h1 => ⟨Nat.le_of_lt (small1000 (by rw [h1.len]; exact hl)), fun p hp => q _ _ (e1.trans (same_upd hp)) (da_lst (A.mono e1).dom hp h1)⟩
theorem ee_cb {r : List V → Hp → VK → Prop} {ta : TA} {ds : List PyData} (hr : CD r ds d) (h : EA ta Γ ds) : EE (tCB r ta) Γ d := fun O Bs σ H A Q q =>
  h O Bs σ H A _ fun vs H1 e1 h1 => hr O H1 vs (A.mono e1).dom h1 Q fun v H2 e2 h2 => q v H2 (e1.trans e2) h2
theorem ee_call {sp : Sp} {E : XK} {ta : TA} {ds : List PyData} (hs : PD sp ds d) (h : EA ta Γ ds) : EE (tCall sp [] E ta) Γ d := fun O Bs σ H A Q q =>
  h O Bs σ H A _ fun vs H1 e1 h1 => by
    show sp (vs ++ []) H1 Q E
    rw [List.append_nil]
    exact hs O H1 vs (A.mono e1).dom h1 Q E fun v H2 e2 h2 => q v H2 (e1.trans e2) h2
theorem ee_if {b : Bool} (h : ET t Γ b) (h1 : b = true → EE ta Γ d) (h2 : b = false → EE tb Γ d) : EE (tIf t ta tb) Γ d := fun O Bs σ H A Q q => h O Bs σ H A _ fun H1 e1 => by
  cases b with
  | true =>
    show ta σ H1 Q
    exact h1 rfl O Bs σ H1 (A.mono e1) Q fun v H2 e2 => q v H2 (e1.trans e2)
  | false =>
    show tb σ H1 Q
    exact h2 rfl O Bs σ H1 (A.mono e1) Q fun v H2 e2 => q v H2 (e1.trans e2)
theorem et_test {b : Bool} (h : EE te Γ (.bool b)) : ET (tTest te) Γ b := fun O Bs σ H A Q q => h O Bs σ H A _ fun v H1 e1 h1 => by
  cases h1
  exact ⟨b, rfl, q H1 e1⟩
theorem et_B {b : Bool} (h : EE te Γ (.bool b)) : ET (tB te) Γ b := fun O Bs σ H A Q q => h O Bs σ H A _ fun v H1 e1 h1 => by
  cases h1
  exact ⟨b, rfl, q H1 e1⟩
theorem et_is {a b : Bool} (h : ET t Γ a) (e : a = b) : ET t Γ b := e ▸ h
theorem et_and {a b : Bool} (h1 : ET t Γ a) (h2 : a = true → ET u Γ b) : ET (tAnd t u) Γ (a && b) := fun O Bs σ H A Q q => h1 O Bs σ H A _ fun H1 e1 => by
  cases a with
  | true =>
    show u σ H1 Q
    exact h2 rfl O Bs σ H1 (A.mono e1) Q fun H2 e2 => q H2 (e1.trans e2)
  | false =>
    show Q false H1
    exact q H1 e1
theorem et_or {a b : Bool} (h1 : ET t Γ a) (h2 : a = false → ET u Γ b) : ET (tOr t u) Γ (a || b) := fun O Bs σ H A Q q => h1 O Bs σ H A _ fun H1 e1 => by
  cases a with
  | true =>
    show Q true H1
    exact q H1 e1
  | false =>
    show u σ H1 Q
    exact h2 rfl O Bs σ H1 (A.mono e1) Q fun H2 e2 => q H2 (e1.trans e2)
theorem et_not {a : Bool} (h : ET t Γ a) : ET (tNot t) Γ (!a) := fun O Bs σ H A Q q => h O Bs σ H A _ fun H1 e1 => q H1 e1
theorem et_yes : ET tYes Γ true := fun O Bs σ H A Q q => q H (Same.refl H)
theorem ee_andV {a b : Bool} (h1 : EE ta Γ (.bool a)) (h2 : a = true → EE tb Γ (.bool b)) : EE (tAndV ta tb) Γ (.bool (a && b)) := fun O Bs σ H A Q q => h1 O Bs σ H A _ fun v H1 e1 g => by
  cases g
  refine ⟨a, rfl, ?_⟩
  cases a with
  | true =>
    show tb σ H1 Q
    exact h2 rfl O Bs σ H1 (A.mono e1) Q fun v H2 e2 => q v H2 (e1.trans e2)
  | false =>
    show Q (.bl false) H1
    exact q _ H1 e1 (.bl false)
theorem ee_notV {a : Bool} (h1 : EE ta Γ (.bool a)) : EE (tNotV ta) Γ (.bool (!a)) := fun O Bs σ H A Q q => h1 O Bs σ H A _ fun v H1 e1 g => by
  cases g
  exact ⟨a, rfl, q _ H1 e1 (.bl _)⟩
theorem ee_isN (ha : EE ta Γ d) : EE (tIsN ta) Γ (.bool (isNon d)) := fun O Bs σ H A Q q => ha O Bs σ H A _ fun v H1 e1 h1 => by
  have e : decide (v = V.non) = isNon d := by cases h1 <;> simp [isNon]
  rw [e]
  exact q _ H1 e1 (.bl _)
theorem ee_notN (ha : EE ta Γ d) : EE (tNotN ta) Γ (.bool (!isNon d)) := fun O Bs σ H A Q q => ha O Bs σ H A _ fun v H1 e1 h1 => by
  have e : decide (v = V.non) = isNon d := by cases h1 <;> simp [isNon]
  rw [e]
  exact q _ H1 e1 (.bl _)

/-! ### operations -/
theorem od_I0 {g : Int → Int → V} {i j : Int} (s : Da (fun _ => none) (g i j) d) (hs : isSc d = true) : OD (rI0 g) (.int i) (.int j) d := fun O H x y hd hx hy Q q => by
  cases hx
  cases hy
  refine ⟨i, j, rfl, rfl, q _ H (Same.refl H) ?_⟩
  rw [s.sc hs]
  exact da_sc hs
theorem od_add (i j : Int) : OD (rI0 fun i j => .int (i + j)) (.int i) (.int j) (.int (i + j)) := od_I0 (.int _) rfl
theorem od_sub (i j : Int) : OD (rI0 fun i j => .int (i - j)) (.int i) (.int j) (.int (i - j)) := od_I0 (.int _) rfl
theorem od_cmp (p : Int → Int → Bool) (i j : Int) : OD (rI0 fun i j => .bl (p i j)) (.int i) (.int j) (.bool (p i j)) := od_I0 (.bl _) rfl
theorem od_lt (i j : Int) : OD (rI0 fun i j => .bl (decide (i < j))) (.int i) (.int j) (.bool (decide (i < j))) := od_cmp (fun i j => decide (i < j)) i j
theorem od_le (i j : Int) : OD (rI0 fun i j => .bl (decide (i ≤ j))) (.int i) (.int j) (.bool (decide (i ≤ j))) := od_cmp (fun i j => decide (i ≤ j)) i j
theorem od_gt (i j : Int) : OD (rI0 fun i j => .bl (decide (j < i))) (.int i) (.int j) (.bool (decide (j < i))) := od_cmp (fun i j => decide (j < i)) i j
theorem od_eq (h1 : isSc d1 = true) (h2 : isSc d2 = true) (hs : scal (vOf d1) (vOf d2) = true) : OD rEq d1 d2 (.bool (decide (vOf d1 = vOf d2))) := fun O H x y hd hx hy Q q => by
  rw [hx.sc h1, hy.sc h2]
  exact ⟨hs, q _ H (Same.refl H) (.bl _)⟩
theorem od_ne (h1 : isSc d1 = true) (h2 : isSc d2 = true) (hs : scal (vOf d1) (vOf d2) = true) : OD rNe d1 d2 (.bool (!decide (vOf d1 = vOf d2))) := fun O H x y hd hx hy Q q => by
  rw [hx.sc h1, hy.sc h2]
  exact ⟨hs, q _ H (Same.refl H) (.bl _)⟩
theorem od_eqI (i j : Int) : OD rEq (.int i) (.int j) (.bool (decide (i = j))) := by
  have h := od_eq (d1 := .int i) (d2 := .int j) rfl rfl rfl
  have e : decide (vOf (.int i) = vOf (.int j)) = decide (i = j) := by show decide (V.int i = V.int j) = _; simp
  rw [e] at h
  exact h
theorem od_eqS (i j : Str) : OD rEq (.str i) (.str j) (.bool (decide (i = j))) := by
  have h := od_eq (d1 := .str i) (d2 := .str j) rfl rfl rfl
  have e : decide (vOf (.str i) = vOf (.str j)) = decide (i = j) := by show decide (V.str i = V.str j) = _; simp
  rw [e] at h
  exact h
theorem od_neI (i j : Int) : OD rNe (.int i) (.int j) (.bool (!decide (i = j))) := by
  have h := od_ne (d1 := .int i) (d2 := .int j) rfl rfl rfl
  have e : decide (vOf (.int i) = vOf (.int j)) = decide (i = j) := by show decide (V.int i = V.int j) = _; simp
  rw [e] at h
  exact h
theorem od_neS (i j : Str) : OD rNe (.str i) (.str j) (.bool (!decide (i = j))) := by
  have h := od_ne (d1 := .str i) (d2 := .str j) rfl rfl rfl
  have e : decide (vOf (.str i) = vOf (.str j)) = decide (i = j) := by show decide (V.str i = V.str j) = _; simp
  rw [e] at h
  exact h
theorem od_neB (i j : Bool) : OD rNe (.bool i) (.bool j) (.bool (!decide (i = j))) := by
  have h := od_ne (d1 := .bool i) (d2 := .bool j) rfl rfl rfl
  have e : decide (vOf (.bool i) = vOf (.bool j)) = decide (i = j) := by show decide (V.bl i = V.bl j) = _; simp
  rw [e] at h
  exact h
theorem od_eqB (i j : Bool) : OD rEq (.bool i) (.bool j) (.bool (decide (i = j))) := by
  have h := od_eq (d1 := .bool i) (d2 := .bool j) rfl rfl rfl
  have e : decide (vOf (.bool i) = vOf (.bool j)) = decide (i = j) := by show decide (V.bl i = V.bl j) = _; simp
  rw [e] at h
  exact h
theorem od_ixL {ds : List PyData} {j : Nat} (h : ds[j]? = some d) : OD (rIxL K) (.list ds) (.int (j : Int)) d := fun O H x y hd hx hy Q q => by
  cases hy
  cases hx with
  | lst h1 h2 =>
    obtain ⟨v, hv, hD⟩ := h2.got h
    exact ⟨_, _, _, v, rfl, rfl, SqL.of (cut_same _ _ h1), atI_nat hv, q v H (Same.refl H) hD⟩
theorem od_ixT {ds : List PyData} {j : Nat} (h : ds[j]? = some d) : OD (rIxT K) (.tuple ds) (.int (j : Int)) d := fun O H x y hd hx hy Q q => by
  cases hy
  cases hx with
  | tup h1 h2 =>
    obtain ⟨v, hv, hD⟩ := h2.got h
    exact ⟨_, _, _, v, rfl, rfl, SqT.of (cut_same _ _ h1), atI_nat hv, q v H (Same.refl H) hD⟩
theorem atI_end {α : Type} {xs : List α} {v : α} (h : xs.getLast? = some v) : atI xs (-1) = some v := by
  cases xs with
  | nil => cases h
  | cons a r =>
    rw [List.getLast?_eq_getLast (List.cons_ne_nil a r)] at h
    have e := List.dropLast_concat_getLast (List.cons_ne_nil a r)
    rw [← e, Option.some.inj h]
    exact atI_last _ _
theorem DaAll.last {H : Hp} {ds : List PyData} {vs : List V} (h : DaAll H vs ds) (hl : ds.getLast? = some d) : ∃ v, vs.getLast? = some v ∧ Da H v d := by
  rw [List.getLast?_eq_getElem?] at hl ⊢
  rw [h.len]
  exact h.got hl
theorem od_lastL {ds : List PyData} (h : ds.getLast? = some d) : OD (rIxL K) (.list ds) (.int (-1)) d := fun O H x y hd hx hy Q q => by
  cases hy
  cases hx with
  | lst h1 h2 =>
    obtain ⟨v, hv, hD⟩ := h2.last h
    exact ⟨_, _, _, v, rfl, rfl, SqL.of (cut_same _ _ h1), atI_end hv, q v H (Same.refl H) hD⟩
theorem od_lastT {ds : List PyData} (h : ds.getLast? = some d) : OD (rIxT K) (.tuple ds) (.int (-1)) d := fun O H x y hd hx hy Q q => by
  cases hy
  cases hx with
  | tup h1 h2 =>
    obtain ⟨v, hv, hD⟩ := h2.last h
    exact ⟨_, _, _, v, rfl, rfl, SqT.of (cut_same _ _ h1), atI_end hv, q v H (Same.refl H) hD⟩
theorem flat_sc (h : isSc d = true) : flatV (vOf d) = true := by
  cases d <;> first | rfl | exact absurd h Bool.false_ne_true
theorem flats_sc {ds : List PyData} (h : ds.all isSc = true) : (ds.map vOf).all flatV = true := by
  rw [List.all_map, List.all_eq_true]
  intro x hx
  exact flat_sc (List.all_eq_true.mp h x hx)
theorem od_inT {neg : Bool} {ds : List PyData} (h1 : isSc d = true) (h2 : ds.all isSc = true) : OD (rIn K neg) d (.tuple ds) (.bool (if neg then !inV (vOf d) (ds.map vOf) else inV (vOf d) (ds.map vOf))) := fun O H x y hd hx hy Q q => by
  rw [hx.sc h1]
  cases hy with
  | tup h3 h4 =>
    rw [h4.sc h2] at h3
    exact ⟨_, _, rfl, .inr (SqT.of (cut_same _ _ h3)), flat_sc h1, flats_sc h2, q _ H (Same.refl H) (.bl _)⟩
theorem od_inL {neg : Bool} {ds : List PyData} (h1 : isSc d = true) (h2 : ds.all isSc = true) : OD (rIn K neg) d (.list ds) (.bool (if neg then !inV (vOf d) (ds.map vOf) else inV (vOf d) (ds.map vOf))) := fun O H x y hd hx hy Q q => by
  rw [hx.sc h1]
  cases hy with
  | lst h3 h4 =>
    rw [h4.sc h2] at h3
    exact ⟨_, _, rfl, .inl (SqL.of (cut_same _ _ h3)), flat_sc h1, flats_sc h2, q _ H (Same.refl H) (.bl _)⟩
theorem inV_ints (a : Int) (L : List Int) : inV (.int a) (L.map V.int) = decide (a ∈ L) := by
  unfold inV
  rw [List.any_map]
  induction L with
  | nil => rfl
  | cons b L ih =>
    rw [List.any_cons, ih]
    show (b == a || decide (a ∈ L)) = decide (a ∈ b :: L)
    by_cases e : b = a
    · subst e; simp
    · have : ¬ a = b := fun z => e z.symm
      simp [e, this]
/-- a letter in letters -/
theorem od_letter (a : Int) (L : List Int) : OD (rIn K false) (.int a) (.tuple (L.map .int)) (.bool (decide (a ∈ L))) := by
  have h := od_inT (K := K) (neg := false) (d := .int a) (ds := L.map .int) rfl (sc_ints L).1
  rw [(sc_ints L).2] at h
  show OD (rIn K false) (.int a) (.tuple (L.map .int)) (.bool (decide (a ∈ L)))
  rw [← inV_ints]
  exact h
theorem od_cat {ds es : List PyData} (hz : ds.length + es.length ≤ 1000000) : OD rCat (.list ds) (.list es) (.list (ds ++ es)) := fun O H x y hd hx hy Q q => by
  cases hx with
  | lst h1 h2 =>
    cases hy with
    | lst h3 h4 =>
      exact ⟨_, _, _, _, rfl, rfl, cut_same _ _ h1, cut_same _ _ h3, by rw [h2.len, h4.len, sizeLine_eq]; omega, fun p hp => q _ _ (same_upd hp) (da_lst hd hp (h2.app h4))⟩
theorem od_catT {ds es : List PyData} (hz : ds.length + es.length ≤ 1000000) : OD (rCatA K) (.tuple ds) (.tuple es) (.tuple (ds ++ es)) := fun O H x y hd hx hy Q q => by
  cases hx with
  | @tup a xs _ h1 h2 =>
    cases hy with
    | @tup b ys _ h3 h4 =>
      refine ⟨a, b, xs, ys, rfl, rfl, SqT.of (cut_same _ _ h1), SqT.of (cut_same _ _ h3), by rw [h2.len, h4.len, sizeLine_eq]; omega, fun e => ?_, fun _ e => ?_, fun _ _ p hp => q _ _ (same_upd hp) (da_tup hd hp (h2.app h4))⟩
      · subst e
        cases h2
        exact q _ H (Same.refl H) (.tup h3 h4)
      · subst e
        cases h4
        refine q _ H (Same.refl H) ?_
        rw [List.append_nil]
        exact .tup h1 h2
theorem cd_lenL {ds : List PyData} : CD (fun xs H Q => ∃ p ys, xs = [.ref p] ∧ (SqL K H p ys ∨ SqT K H p ys) ∧ Q (.int ys.length) H) [.list ds] (.int ds.length) := fun O H vs hd hv Q q => by
  cases hv with
  | cons h1 h2 =>
    cases h2
    cases h1 with
    | lst h3 h4 => exact ⟨_, _, rfl, .inl (SqL.of (cut_same _ _ h3)), by rw [h4.len]; exact q _ H (Same.refl H) (.int _)⟩
theorem cd_lenT {ds : List PyData} : CD (fun xs H Q => ∃ p ys, xs = [.ref p] ∧ (SqL K H p ys ∨ SqT K H p ys) ∧ Q (.int ys.length) H) [.tuple ds] (.int ds.length) := fun O H vs hd hv Q q => by
  cases hv with
  | cons h1 h2 =>
    cases h2
    cases h1 with
    | tup h3 h4 => exact ⟨_, _, rfl, .inr (SqT.of (cut_same _ _ h3)), by rw [h4.len]; exact q _ H (Same.refl H) (.int _)⟩
/-- tuple(list), tuple(tuple), list(list) -/
theorem cd_tupL {ds : List PyData} : CD (fun xs H Q => ∃ p ys, xs = [.ref p] ∧ ((SqL K H p ys ∧ ∀ l, H l = none → Q (.ref l) (upd H l (.tup ys))) ∨ (SqT K H p ys ∧ Q (.ref p) H))) [.list ds] (.tuple ds) := fun O H vs hd hv Q q => by
  cases hv with
  | cons h1 h2 =>
    cases h2
    cases h1 with
    | lst h3 h4 => exact ⟨_, _, rfl, .inl ⟨SqL.of (cut_same _ _ h3), fun l hl => q _ _ (same_upd hl) (da_tup hd hl h4)⟩⟩
theorem cd_listL {ds : List PyData} : CD (fun xs H Q => ∃ p ys, xs = [.ref p] ∧ (SqL K H p ys ∨ SqT K H p ys) ∧ ∀ l, H l = none → Q (.ref l) (upd H l (.lst ys))) [.list ds] (.list ds) := fun O H vs hd hv Q q => by
  cases hv with
  | cons h1 h2 =>
    cases h2
    cases h1 with
    | lst h3 h4 => exact ⟨_, _, rfl, .inl (SqL.of (cut_same _ _ h3)), fun l hl => q _ _ (same_upd hl) (da_lst hd hl h4)⟩
end
end Nx
set_option maxHeartbeats 4000000
/-! the layer over data, 2: targets, what is walked, comprehensions, statements, loops, defs -/
namespace Nx
open PySem PySem.Spec PyProof.Rows L2

/-! ### targets -/
theorem wipe_get (σ : L2.St) : ∀ (vs : List Nat) (j : Nat), (wipe σ vs)[j]? = if j ∈ vs then (σ[j]?).map (fun _ => none) else σ[j]?
  | [], j => by simp [wipe]
  | v :: vs, j => by
    rw [wipe, List.getElem?_set, wipe_get σ vs j, wipe_length]
    by_cases e : v = j
    · subst e
      rw [if_pos rfl, if_pos List.mem_cons_self]
      by_cases h : v < σ.length
      · rw [if_pos h, List.getElem?_eq_getElem h]; rfl
      · rw [if_neg h, List.getElem?_eq_none (by omega)]; rfl
    · rw [if_neg e]
      have e' : ¬ j = v := fun z => e z.symm
      by_cases h : j ∈ vs
      · rw [if_pos h, if_pos (List.mem_cons_of_mem _ h)]
      · rw [if_neg h, if_neg (fun z => (List.mem_cons.mp z).elim e' h)]
theorem wipe_set {σ : L2.St} {vs : List Nat} {i : Nat} {x : Option V} (h : i ∈ vs) : wipe (σ.set i x) vs = wipe σ vs := by
  refine List.ext_getElem? fun j => ?_
  rw [wipe_get, wipe_get]
  by_cases hj : j ∈ vs
  · rw [if_pos hj, if_pos hj, List.getElem?_set]
    by_cases e : i = j
    · subst e
      rw [if_pos rfl]
      by_cases hl : i < σ.length
      · rw [if_pos hl, List.getElem?_eq_getElem hl]; rfl
      · rw [if_neg hl, List.getElem?_eq_none (by omega)]
    · rw [if_neg e]
  · rw [if_neg hj, if_neg hj, List.getElem?_set_ne (fun e => hj (by rw [← e]; exact h))]
def GT (vs : List Nat) (g : TG) (Γ : List Slv) (d : PyData) (Γ' : List Slv) : Prop := ∀ O Bs σ H v, Ats O Bs σ H Γ → Da (cut O H) v d → ∀ Q : L2.St → Hp → Prop, (∀ σ', Ats O Bs σ' H Γ' → wipe σ' vs = wipe σ vs → Q σ' H) → g v σ H Q
def GTs (vs : List Nat) (g : TGs) (Γ : List Slv) (ds : List PyData) (Γ' : List Slv) : Prop := ∀ O Bs σ H ws, Ats O Bs σ H Γ → DaAll (cut O H) ws ds → ∀ Q : L2.St → Hp → Prop, (∀ σ', Ats O Bs σ' H Γ' → wipe σ' vs = wipe σ vs → Q σ' H) → g ws σ H Q
section
variable {vs : List Nat} {Γ Γ1 Γ2 : List Slv} {d : PyData} {ds : List PyData} {g : TG} {gs : TGs} {K : PySem.W.Frag}
theorem gt_name {i : Nat} (h : i ∈ vs) : GT vs (gName i) Γ d (Γ.set i (.dat d)) := fun O Bs σ H v A hv Q q => q _ (A.set hv) (wipe_set h)
theorem gts_nil : GTs vs gNil Γ [] Γ := fun O Bs σ H ws A hv Q q => by
  cases hv
  exact ⟨rfl, q σ A rfl⟩
theorem gts_cons (h1 : GT vs g Γ d Γ1) (h2 : GTs vs gs Γ1 ds Γ2) : GTs vs (gCons g gs) Γ (d :: ds) Γ2 := fun O Bs σ H ws A hv Q q => by
  cases hv with
  | cons a b => exact ⟨_, _, rfl, h1 O Bs σ H _ A a _ fun σ1 A1 e1 => h2 O Bs σ1 H _ A1 b Q fun σ2 A2 e2 => q σ2 A2 (e2.trans e1)⟩
theorem gt_tup {n : Nat} (h : GTs vs gs Γ ds Γ1) (hn : ds.length = n) : GT vs (gTup K n gs) Γ (.tuple ds) Γ1 := fun O Bs σ H v A hv Q q => by
  cases hv with
  | tup a b => exact ⟨_, _, rfl, SqT.of (cut_same _ _ a), by rw [b.len]; exact hn, h O Bs σ H _ A b Q q⟩
end

/-! ### what is walked -/
structure WD (O : List Addr) (J : It) (ds : List PyData) (G : Hp → Prop) : Prop where
  stay : ∀ H H', Same (cut O H) (cut O H') → G H → G H'
  goes : ∀ i H, i < ds.length → G H → J.go i H
  stops : ∀ H, G H → J.stop ds.length H
  yields : ∀ (i : Nat) H x H' (d : PyData), ds[i]? = some d → G H → (∀ a ∈ O, H a ≠ none) → J.yld i H x H' → Same H H' ∧ Da (cut O H') x d
def EI (wi : TI) (Γ : List Slv) (ds : List PyData) : Prop := ∀ O Bs σ H, Ats O Bs σ H Γ → ∀ R : It → Hp → Prop, (∀ J H1, Same H H1 → (∀ O', (∀ a ∈ O, a ∈ O') → (∀ a ∈ O', a ∈ O ∨ H1 a = none) → ∃ G, WD O' J ds G ∧ G H1) → R J H1) → wi σ H R
theorem cut_ext {O O' : List Addr} {H : Hp} (h1 : ∀ a ∈ O, a ∈ O') (h2 : ∀ a ∈ O', a ∈ O ∨ H a = none) : cut O' H = cut O H := by
  funext b
  unfold cut
  by_cases hb : b ∈ O'
  · rw [if_pos hb]
    rcases h2 b hb with h | h
    · rw [if_pos h]
    · by_cases c : b ∈ O
      · rw [if_pos c]
      · rw [if_neg c, h]
  · rw [if_neg hb, if_neg fun z => hb (h1 b z)]
section
variable {Γ : List Slv} {te : TE} {ta : TA} {ds es : List PyData} {K : PySem.W.Frag}
theorem ei_list (h : EE te Γ (.list ds)) : EI (iList K te) Γ ds := fun O Bs σ H A R q => h O Bs σ H A _ fun v H1 e1 hv => by
  cases hv with
  | @lst a xs _ h1 h2 =>
    refine ⟨a, rfl, ⟨xs, SqL.of (cut_same _ _ h1)⟩, q _ H1 e1 fun O' o1 o2 => ⟨fun H => cut O' H a = some (.lst xs) ∧ DaAll (cut O' H) xs ds, ⟨fun H H' e g => ⟨e _ _ g.1, g.2.mono (SL.of e)⟩, fun i H hi g => ?_, fun H g => ⟨xs, SqL.of (cut_same _ _ g.1), Nat.le_of_eq g.2.len⟩, fun i H x H' d hd g hO y => ?_⟩, ?_⟩⟩
    · obtain ⟨v, hv, _⟩ := g.2.got (List.getElem?_eq_getElem hi)
      exact ⟨xs, v, SqL.of (cut_same _ _ g.1), hv⟩
    · obtain ⟨rfl, y⟩ := y
      obtain ⟨v, hv, hD⟩ := g.2.got hd
      have e := y xs (SqL.of (cut_same _ _ g.1))
      rw [hv] at e
      cases e
      exact ⟨Same.refl _, hD⟩
    · show _ ∧ _
      rw [cut_ext o1 o2]
      exact ⟨h1, h2⟩
theorem ei_tup (h : EE te Γ (.tuple ds)) : EI (iTup K te) Γ ds := fun O Bs σ H A R q => h O Bs σ H A _ fun v H1 e1 hv => by
  cases hv with
  | @tup a xs _ h1 h2 =>
    refine ⟨a, rfl, ⟨xs, SqT.of (cut_same _ _ h1)⟩, q _ H1 e1 fun O' o1 o2 => ⟨fun H => cut O' H a = some (.tup xs) ∧ DaAll (cut O' H) xs ds, ⟨fun H H' e g => ⟨e _ _ g.1, g.2.mono (SL.of e)⟩, fun i H hi g => ?_, fun H g => ⟨xs, SqT.of (cut_same _ _ g.1), Nat.le_of_eq g.2.len⟩, fun i H x H' d hd g hO y => ?_⟩, ?_⟩⟩
    · obtain ⟨v, hv, _⟩ := g.2.got (List.getElem?_eq_getElem hi)
      exact ⟨xs, v, SqT.of (cut_same _ _ g.1), hv⟩
    · obtain ⟨rfl, y⟩ := y
      obtain ⟨v, hv, hD⟩ := g.2.got hd
      have e := y xs (SqT.of (cut_same _ _ g.1))
      rw [hv] at e
      cases e
      exact ⟨Same.refl _, hD⟩
    · show _ ∧ _
      rw [cut_ext o1 o2]
      exact ⟨h1, h2⟩
/-- lo, lo + 1, .. (n of them) -/
def rgD (lo : Int) (n : Nat) : List PyData := (List.range n).map fun i : Nat => PyData.int (lo + i)
theorem rgD_len (lo : Int) (n : Nat) : (rgD lo n).length = n := by unfold rgD; rw [List.length_map, List.length_range]
theorem wd_rng (O : List Addr) (lo : Int) (n : Nat) : WD O (Itr lo n) (rgD lo n) (fun _ => True) := by
  refine ⟨fun _ _ _ g => g, fun i H hi _ => ?_, fun H _ => ?_, fun i H x H' d hd _ _ y => ?_⟩
  · rw [rgD_len] at hi; exact hi
  · rw [rgD_len]; exact Nat.le_refl _
  · obtain ⟨rfl, rfl⟩ := y
    refine ⟨Same.refl _, ?_⟩
    have hi := (List.getElem?_eq_some_iff.mp hd).1
    rw [rgD_len] at hi
    unfold rgD at hd
    rw [List.getElem?_map, List.getElem?_range hi] at hd
    cases hd
    exact .int _
theorem ei_rng1 {n : Int} (h : EA ta Γ [.int n]) (h1 : n ≤ 1000000) (h2 : -1000000 ≤ n) : EI (iRng1 ta) Γ (rgD 0 n.toNat) := fun O Bs σ H A R q => h O Bs σ H A _ fun vs H1 e1 hv => by
  cases hv with
  | cons a b =>
    cases b
    cases a
    exact ⟨n, rfl, by omega, by omega, q _ H1 e1 fun O' _ _ => ⟨_, wd_rng O' 0 n.toNat, trivial⟩⟩
theorem ei_rng2 {lo hi : Int} (h : EA ta Γ [.int lo, .int hi]) (h1 : -1000000 ≤ lo ∧ lo ≤ 1000000 ∧ -1000000 ≤ hi ∧ hi ≤ 1000000) : EI (iRng2 ta) Γ (rgD lo (hi - lo).toNat) := fun O Bs σ H A R q => h O Bs σ H A _ fun vs H1 e1 hv => by
  cases hv with
  | cons a b =>
    cases b with
    | cons c b =>
      cases b
      cases a
      cases c
      exact ⟨lo, hi, rfl, ⟨by omega, by omega, by omega, by omega⟩, q _ H1 e1 fun O' _ _ => ⟨_, wd_rng O' lo (hi - lo).toNat, trivial⟩⟩
/-- pairs of what two walks give -/
theorem wd_pair {O : List Addr} {J : It} {G : Hp → Prop} {n : Nat} {fx fy : Hp → Nat → Option V} {ps : List PyData} (hn : ps.length = n) (hs : ∀ H H', Same (cut O H) (cut O H') → G H → G H')
    (w : ∀ H, G H → ∀ H', G H' → Walk J n G (fun i H v H' => ∃ T x y, v = .ref T ∧ H T = none ∧ H' = upd H T (.tup [x, y]) ∧ fx H i = some x ∧ fy H i = some y))
    (hd : ∀ (i : Nat) H x y, i < n → G H → fx H i = some x → fy H i = some y → ∃ dx dy, ps[i]? = some (.tuple [dx, dy]) ∧ Da (cut O H) x dx ∧ Da (cut O H) y dy) : WD O J ps G where
  stay := hs
  goes := fun i H hi g => (w H g H g).goes i H (by omega) g
  stops := fun H g => by rw [hn]; exact (w H g H g).stops H g
  yields := fun i H x H' d hi g hO y => by
    have hlt := (List.getElem?_eq_some_iff.mp hi).1
    obtain ⟨T, x1, y1, rfl, hT, rfl, h1, h2⟩ := (w H g H g).yields i H x H' (by omega) g y
    obtain ⟨dx, dy, e, a, b⟩ := hd i H x1 y1 (by omega) g h1 h2
    rw [hi] at e
    cases e
    exact ⟨same_upd hT, da_tup hO hT (.cons a (.cons b .nil))⟩
def pairD (a b : PyData) : PyData := .tuple [a, b]
theorem zip_get {α β γ : Type} (f : α → β → γ) (xs : List α) (ys : List β) (i : Nat) : (List.zipWith f xs ys)[i]? = match xs[i]?, ys[i]? with
    | some a, some b => some (f a b)
    | _, _ => none := by
  rw [List.getElem?_zipWith]
  cases xs[i]? <;> cases ys[i]? <;> rfl
theorem ei_zipT (h : EA ta Γ [.tuple ds, .tuple es]) : EI (RZ.iZipA K ta) Γ (List.zipWith pairD ds es) := fun O Bs σ H A R q => h O Bs σ H A _ fun vs H1 e1 hv => by
  cases hv with
  | cons p r =>
    cases r with
    | cons p2 r =>
      cases r
      cases p with
      | @tup a xs _ h1 h2 =>
        cases p2 with
        | @tup b ys _ h3 h4 =>
          refine ⟨a, b, xs, ys, rfl, .inr ⟨SqT.of (cut_same _ _ h1), SqT.of (cut_same _ _ h3), q _ H1 e1 fun O' o1 o2 => ⟨fun H => (cut O' H a = some (.tup xs) ∧ DaAll (cut O' H) xs ds) ∧ (cut O' H b = some (.tup ys) ∧ DaAll (cut O' H) ys es), ?_, ?_⟩⟩⟩
          · refine wd_pair (n := min xs.length ys.length) (fx := fun _ i => xs[i]?) (fy := fun _ i => ys[i]?) (by rw [List.length_zipWith, h2.len, h4.len]) (fun H H' e g => ⟨⟨e _ _ g.1.1, g.1.2.mono (SL.of e)⟩, ⟨e _ _ g.2.1, g.2.2.mono (SL.of e)⟩⟩) (fun H g H' g' => ?_) (fun i H x y hi g hx hy => ?_)
            · exact (walk_zpT (K := K) (a := a) (b := b) (xs := xs) (ys := ys) rfl).mono (fun H g => ⟨SqT.of (cut_same _ _ g.1.1), SqT.of (cut_same _ _ g.2.1)⟩) (fun i H x H' _ _ y => y)
            · obtain ⟨dx, h5, h6⟩ := g.1.2.get hx
              obtain ⟨dy, h7, h8⟩ := g.2.2.get hy
              exact ⟨dx, dy, by rw [zip_get, h5, h7]; rfl, h6, h8⟩
          · show _ ∧ _
            rw [cut_ext o1 o2]
            exact ⟨⟨h1, h2⟩, ⟨h3, h4⟩⟩
theorem ei_zipL (h : EA ta Γ [.list ds, .list es]) : EI (RZ.iZipA K ta) Γ (List.zipWith pairD ds es) := fun O Bs σ H A R q => h O Bs σ H A _ fun vs H1 e1 hv => by
  cases hv with
  | cons p r =>
    cases r with
    | cons p2 r =>
      cases r
      cases p with
      | @lst a xs _ h1 h2 =>
        cases p2 with
        | @lst b ys _ h3 h4 =>
          refine ⟨a, b, xs, ys, rfl, .inl ⟨SqL.of (cut_same _ _ h1), SqL.of (cut_same _ _ h3), q _ H1 e1 fun O' o1 o2 => ⟨fun H => (cut O' H a = some (.lst xs) ∧ DaAll (cut O' H) xs ds) ∧ (cut O' H b = some (.lst ys) ∧ DaAll (cut O' H) ys es), ?_, ?_⟩⟩⟩
          · refine wd_pair (n := min xs.length ys.length) (fx := fun _ i => xs[i]?) (fy := fun _ i => ys[i]?) (by rw [List.length_zipWith, h2.len, h4.len]) (fun H H' e g => ⟨⟨e _ _ g.1.1, g.1.2.mono (SL.of e)⟩, ⟨e _ _ g.2.1, g.2.2.mono (SL.of e)⟩⟩) (fun H g H' g' => ?_) (fun i H x y hi g hx hy => ?_)
            · exact (walk_zip (K := K) (a := a) (b := b) (xs := xs) (ys := ys) rfl).mono (fun H g => ⟨SqL.of (cut_same _ _ g.1.1), SqL.of (cut_same _ _ g.2.1)⟩) (fun i H x H' _ _ y => y)
            · obtain ⟨dx, h5, h6⟩ := g.1.2.get hx
              obtain ⟨dy, h7, h8⟩ := g.2.2.get hy
              exact ⟨dx, dy, by rw [zip_get, h5, h7]; rfl, h6, h8⟩
          · show _ ∧ _
            rw [cut_ext o1 o2]
            exact ⟨⟨h1, h2⟩, ⟨h3, h4⟩⟩
def numD (ds : List PyData) : List PyData := ds.mapIdx fun i d => pairD (.int (i : Nat)) d
theorem ei_enT (h : EA ta Γ [.tuple ds]) : EI (iEnT K ta) Γ (numD ds) := fun O Bs σ H A R q => h O Bs σ H A _ fun vs H1 e1 hv => by
  cases hv with
  | cons p r =>
    cases r
    cases p with
    | @tup a xs _ h1 h2 =>
      refine ⟨a, xs, rfl, SqT.of (cut_same _ _ h1), q _ H1 e1 fun O' o1 o2 => ⟨fun H => cut O' H a = some (.tup xs) ∧ DaAll (cut O' H) xs ds, ?_, ?_⟩⟩
      · refine wd_pair (n := xs.length) (fx := fun _ i => some (.int (i : Nat))) (fy := fun _ i => xs[i]?) (by unfold numD; rw [List.length_mapIdx, h2.len]) (fun H H' e g => ⟨e _ _ g.1, g.2.mono (SL.of e)⟩) (fun H g H' g' => ?_) (fun i H x y hi g hx hy => ?_)
        · exact (walk_enT (K := K) (a := a) (xs := xs)).mono (fun H g => SqT.of (cut_same _ _ g.1)) (fun i H x H' _ _ y => y)
        · obtain ⟨dy, h7, h8⟩ := g.2.get hy
          cases hx
          exact ⟨.int (i : Nat), dy, by unfold numD; rw [List.getElem?_mapIdx, h7]; rfl, .int _, h8⟩
      · show _ ∧ _
        rw [cut_ext o1 o2]
        exact ⟨h1, h2⟩

/-! ### comprehensions -/
theorem filt1 {α : Type} {f : α → Bool} {x : α} : [x].filter f = if f x = true then [x] else [] := by
  cases h : f x <;> simp [h]
theorem take_snoc {α : Type} {l : List α} {i : Nat} {x : α} (h : l[i]? = some x) : l.take (i + 1) = l.take i ++ [x] := by
  rw [List.take_add_one, h]
  rfl
theorem ee_lc {α : Type} {wi : TI} {g : TG} {tt : TT} {vs : List Nat} (xs : List α) (enc : α → PyData) (f : α → Bool) (y : α → PyData) (Γ' : α → List Slv) (hi : EI wi Γ (xs.map enc)) (hz : xs.length ≤ 4000000)
    (hg : ∀ x ∈ xs, GT vs g (wipeG Γ vs) (enc x) (Γ' x)) (ht : ∀ x ∈ xs, ET tt (Γ' x) (f x)) (he : ∀ x ∈ xs, f x = true → EE te (Γ' x) (y x)) : EE (tLc wi g tt te vs) Γ (.list ((xs.filter f).map y)) := fun O Bs σ H A Q q =>
  hi O Bs σ H A _ fun J H1 e1 hJ D hD => by
    have A1 := A.mono e1
    obtain ⟨G, wd, g1⟩ := hJ (D :: O) (fun a h => List.mem_cons_of_mem _ h) (fun a h => by
      rcases List.mem_cons.mp h with e | e
      · exact .inr (by rw [e]; exact hD)
      · exact .inl e)
    have hB : ∀ p ∈ ([], H1) :: Bs, ∀ a ∈ [D], a ∈ p.1 ∨ p.2 a = none := fun p hp a ha => by
      rw [List.mem_singleton.mp ha]
      rcases List.mem_cons.mp hp with e | hp
      · rw [e]; exact .inr hD
      · by_cases c : D ∈ p.1
        · exact .inl c
        · refine .inr ?_
          cases z : p.2 D with
          | none => rfl
          | some o => rw [A1.ex p hp D o c z] at hD; cases hD
    have gl : (xs.map enc).length = xs.length := List.length_map ..
    refine ⟨fun i m H' => m = xs.length - i ∧ i ≤ xs.length ∧ Ats (D :: O) (([], H1) :: Bs) (wipe σ vs) H' (wipeG Γ vs) ∧ G H' ∧ ∃ acc, H' D = some (.lst acc) ∧ DaAll (cut (D :: O) H') acc (((xs.take i).filter f).map y), ⟨xs.length, by simp, Nat.zero_le _, ((A1.mark []).wipe vs).own hD, wd.stay _ _ ?_ g1, [], upd_same, .nil⟩, ?_⟩
    · rw [cut_new hD, cut_cons hD]; exact Same.refl _
    · rintro i m H' ⟨rfl, hil, A2, g2, acc, hacc, hda⟩
      by_cases hlt : i < xs.length
      · refine .inr ⟨wd.goes i H' (by rw [gl]; exact hlt) g2, fun H'' => Ats (D :: O) (([], H1) :: Bs) (wipe σ vs) H'' (wipeG Γ vs) ∧ G H'' ∧ ∃ acc, H'' D = some (.lst acc) ∧ DaAll (cut (D :: O) H'') acc (((xs.take (i + 1)).filter f).map y), fun H'' h => ⟨xs.length - (i + 1), by omega, rfl, hlt, h⟩, fun x H3 hy => ?_⟩
        have hx : xs[i]? = some xs[i] := List.getElem?_eq_getElem hlt
        have hm : xs[i] ∈ xs := List.getElem_mem hlt
        obtain ⟨e3, hD3⟩ := wd.yields i H' x H3 (enc xs[i]) (by rw [List.getElem?_map, hx]; rfl) g2 A2.dom hy
        have A3 := A2.mono e3
        refine hg _ hm _ _ _ _ _ A3 hD3 _ fun σ2 A4 ew => ⟨?_, ht _ hm _ _ _ _ A4 _ fun H4 e4 => ?_⟩
        · rw [ew]
          refine List.ext_getElem? fun j => ?_
          rw [wipe_get, wipe_get]
          by_cases hj : j ∈ vs
          · rw [if_pos hj, if_pos hj, Option.map_map]; rfl
          · rw [if_neg hj]
        · have A5 := A3.mono e4
          have g5 := wd.stay _ _ (cut_mono (e3.trans e4)) g2
          cases hf : f xs[i] with
          | false =>
            refine ⟨A5, g5, acc, e4 _ _ (e3 _ _ hacc), ?_⟩
            rw [take_snoc hx, List.filter_append, filt1, hf]
            simp only [Bool.false_eq_true, if_false, List.append_nil]
            exact hda.mono (SL.of (cut_mono (e3.trans e4)))
          | true =>
            refine he _ hm hf _ _ _ _ (A4.mono e4) _ fun v H6 e6 h6 => ⟨acc, e6 _ _ (e4 _ _ (e3 _ _ hacc)), ?_, ?_⟩
            · have h1 := hda.len
              have h2 := List.length_filter_le f (xs.take i)
              rw [List.length_map] at h1
              rw [List.length_take] at h2
              rw [sizeLine_eq]
              omega
            · have sb : SameB [D] H6 (upd H6 D (.lst (acc ++ [v]))) := fun b o hb h => by
                rw [upd_ne (fun z => hb (by rw [z]; exact List.mem_singleton.mpr rfl))]
                exact h
              refine ⟨(A5.mono e6).moved sb (fun a ha => by rw [List.mem_singleton.mp ha]; exact List.mem_cons_self) (fun a ha => by rw [List.mem_singleton.mp ha, upd_same]; exact fun z => by cases z) hB, wd.stay _ _ ?_ (wd.stay _ _ (cut_mono e6) g5), _, upd_same, ?_⟩
              · rw [cut_own List.mem_cons_self]; exact Same.refl _
              · rw [cut_own List.mem_cons_self, take_snoc hx, List.filter_append, List.map_append, filt1, hf]
                exact (hda.mono (SL.of (cut_mono ((e3.trans e4).trans e6)))).app (.cons h6 .nil)
      · have e : i = xs.length := by omega
        subst e
        refine .inl ⟨by have := wd.stops H' g2; rw [gl] at this; exact this, q _ H' (e1.trans (A2.ex _ List.mem_cons_self).same) ?_⟩
        rw [List.take_length] at hda
        exact .lst (by rw [cut_at fun z => A1.dom D z hD]; exact hacc) (hda.mono (SL.of (cut_more fun a h => List.mem_cons_of_mem _ h)))
theorem ee_lcY {α : Type} {wi : TI} {g : TG} {vs : List Nat} (xs : List α) (enc : α → PyData) (y : α → PyData) (Γ' : α → List Slv) (hi : EI wi Γ (xs.map enc)) (hz : xs.length ≤ 4000000)
    (hg : ∀ x ∈ xs, GT vs g (wipeG Γ vs) (enc x) (Γ' x)) (he : ∀ x ∈ xs, EE te (Γ' x) (y x)) : EE (tLc wi g tYes te vs) Γ (.list (xs.map y)) := by
  have h := ee_lc xs enc (fun _ => true) y Γ' hi hz hg (fun _ _ => et_yes) (fun x hx _ => he x hx)
  rw [List.filter_eq_self.mpr (fun _ _ => rfl)] at h
  exact h
end

/-! ### statements -/
section
variable {O : List Addr} {Bs : List (List Addr × Hp)} {σ : L2.St} {H H0 : Hp} {Γ : List Slv} {te : TE} {t : TT} {tu tw : TS} {D : Ends} {d : PyData} {K : PySem.W.Frag}
theorem s_ret (h : EE te Γ d) (A : Ats O Bs σ H Γ) (k : ∀ v H2, Same H H2 → Da (cut O H2) v d → D.rt v H2) : tRet te D σ H := h O Bs σ H A _ k
/-- return, where the wish is of what stood at the start -/
theorem s_retQ (h : EE te Γ d) (A : Ats O Bs σ H Γ) (hB : ([], H0) ∈ Bs) (k : ∀ v H2, Same H0 H2 → Da (cut O H2) v d → D.rt v H2) : tRet te D σ H :=
  h O Bs σ H A _ fun v H2 e2 h2 => k v H2 ((A.ex _ hB).same.trans e2) h2
theorem s_set {i : Nat} (h : EE te Γ d) (A : Ats O Bs σ H Γ) (k : ∀ σ' H', Ats O Bs σ' H' (Γ.set i (.dat d)) → D.nx σ' H') : tAsg te (gName i) D σ H :=
  h O Bs σ H A _ fun v H1 e1 h1 => k _ H1 ((A.mono e1).set h1)
theorem s_asg {g : TG} {Γ' : List Slv} (vs : List Nat) (h : EE te Γ d) (A : Ats O Bs σ H Γ) (hg : GT vs g Γ d Γ') (k : ∀ σ' H', Ats O Bs σ' H' Γ' → D.nx σ' H') : tAsg te g D σ H :=
  h O Bs σ H A _ fun v H1 e1 h1 => hg O Bs σ H1 v (A.mono e1) h1 _ fun σ' A' _ => k σ' H1 A'
theorem s_par {i j : Nat} {ta : TA} {d1 d2 : PyData} (h : EA ta Γ [d1, d2]) (A : Ats O Bs σ H Γ) (k : ∀ σ' H', Ats O Bs σ' H' ((Γ.set i (.dat d1)).set j (.dat d2)) → D.nx σ' H') : tPar i j ta D σ H :=
  h O Bs σ H A _ fun vs H1 e1 h1 => by
    cases h1 with
    | cons a b =>
      cases b with
      | cons b c =>
        cases c
        exact ⟨_, _, rfl, k _ H1 (((A.mono e1).set a).set b)⟩
theorem s_if {b : Bool} (h : ET t Γ b) (A : Ats O Bs σ H Γ) (h1 : b = true → ∀ H', Same H H' → Ats O Bs σ H' Γ → tu D σ H') (h2 : b = false → ∀ H', Same H H' → Ats O Bs σ H' Γ → tw D σ H') : tIfS t tu tw D σ H :=
  h O Bs σ H A _ fun H1 e1 => by
    cases b with
    | true =>
      show tu D σ H1
      exact h1 rfl H1 e1 (A.mono e1)
    | false =>
      show tw D σ H1
      exact h2 rfl H1 e1 (A.mono e1)
theorem s_drop (h : EE te Γ d) (A : Ats O Bs σ H Γ) (k : ∀ H', Ats O Bs σ H' Γ → D.nx σ H') : tDrop te D σ H := h O Bs σ H A _ fun v H1 e1 _ => k H1 (A.mono e1)
/-- while, the slots told by a state x -/
theorem s_while {α : Type} (G : α → List Slv) (b : α → Bool) (μ : α → Nat) (Iv : α → Prop) (x0 : α) (h0 : Iv x0) (A : Ats O Bs σ H (G x0)) (ht : ∀ x, Iv x → ET t (G x) (b x))
    (hs : ∀ x σ H, Iv x → b x = true → Ats O Bs σ H (G x) → tu { D with nx := fun σ' H' => ∃ y, Iv y ∧ μ y < μ x ∧ Ats O Bs σ' H' (G y), ct := fun σ' H' => ∃ y, Iv y ∧ μ y < μ x ∧ Ats O Bs σ' H' (G y), bk := D.nx } σ H)
    (hd : ∀ x σ H, Iv x → b x = false → Ats O Bs σ H (G x) → D.nx σ H) : tWhile t tu D σ H :=
  ⟨fun m σ' H' => ∃ x, m = μ x ∧ Iv x ∧ Ats O Bs σ' H' (G x), ⟨_, x0, rfl, h0, A⟩, fun m σ' H' ⟨x, em, hx, A'⟩ => ht x hx O Bs σ' H' A' _ fun H1 e1 => by
    subst em
    cases hb : b x with
    | true => exact ⟨fun σ2 H2 => ∃ y, Iv y ∧ μ y < μ x ∧ Ats O Bs σ2 H2 (G y), fun σ2 H2 ⟨y, h1, h2, h3⟩ => ⟨μ y, h2, y, rfl, h1, h3⟩, hs x σ' H1 hx hb (A'.mono e1)⟩
    | false => exact hd x σ' H1 hx hb (A'.mono e1)⟩
/-- for, the slots told by a word of the turn -/
theorem s_for {wi : TI} {g : TG} {ds : List PyData} (hi : EI wi Γ ds) (A : Ats O Bs σ H Γ) (Iv : Nat → List Slv → Prop) (h0 : Iv 0 Γ)
    (hs : ∀ (i : Nat) (d : PyData) Γ' Bs' σ' H', ds[i]? = some d → Iv i Γ' → (∀ p ∈ Bs, p ∈ Bs') → Ats O Bs' σ' H' Γ' → ∀ x, Da (cut O H') x d →
      g x σ' H' fun σ2 H2 => tu { D with nx := fun σ3 H3 => ∃ Γ2, Iv (i + 1) Γ2 ∧ Ats O Bs' σ3 H3 Γ2, ct := fun σ3 H3 => ∃ Γ2, Iv (i + 1) Γ2 ∧ Ats O Bs' σ3 H3 Γ2, bk := D.nx } σ2 H2)
    (hd : ∀ Γ' σ' H', Iv ds.length Γ' → Ats O Bs σ' H' Γ' → D.nx σ' H') : tFor wi g tu D σ H :=
  hi O Bs σ H A _ fun J H1 e1 hJ => by
    obtain ⟨G, wd, g1⟩ := hJ O (fun a h => h) (fun a h => .inl h)
    refine ⟨fun i m σ' H' => m = ds.length - i ∧ i ≤ ds.length ∧ ∃ Γ', Iv i Γ' ∧ Ats O ((O, H1) :: Bs) σ' H' Γ', ⟨ds.length, by simp, Nat.zero_le _, Γ, h0, (A.mono e1).mark O⟩, ?_⟩
    rintro i m σ' H' ⟨rfl, hil, Γ', h1, A'⟩
    have gi := wd.stay _ _ (cut_sb (fun a h => h) (A'.ex _ List.mem_cons_self)) g1
    by_cases hlt : i < ds.length
    · refine .inr ⟨wd.goes i H' hlt gi, fun σ2 H2 => ∃ Γ2, Iv (i + 1) Γ2 ∧ Ats O ((O, H1) :: Bs) σ2 H2 Γ2, fun σ2 H2 ⟨Γ2, a, b⟩ => ⟨ds.length - (i + 1), by omega, rfl, hlt, Γ2, a, b⟩, fun x H3 hy => ?_⟩
      obtain ⟨e3, hD3⟩ := wd.yields i H' x H3 _ (List.getElem?_eq_getElem hlt) gi A'.dom hy
      exact hs i _ Γ' _ σ' H3 (List.getElem?_eq_getElem hlt) h1 (fun p hp => List.mem_cons_of_mem _ hp) (A'.mono e3) x hD3
    · have e : i = ds.length := by omega
      subst e
      exact .inl ⟨wd.stops H' gi, hd Γ' σ' H' h1 A'.unmark⟩
end

/-! ### defs -/
def initG (N : List Str) (ds : List PyData) : List Slv := ds.map Slv.dat ++ List.replicate (N.length - ds.length) Slv.unk
theorem ats_start {O : List Addr} {H : Hp} {N : List Str} {vs : List V} {ds : List PyData} (hO : ∀ a ∈ O, H a ≠ none) (h : DaAll (cut O H) vs ds) : Ats O [([], H)] (L2.start N vs) H (initG N ds) := by
  have hl := h.len
  refine ⟨hO, fun p hp => by rw [List.mem_singleton.mp hp]; exact SameB.refl _ _, ?_, fun i d hi => ?_, fun i a hi => ?_⟩
  · unfold L2.start initG
    rw [List.length_append, List.length_append, List.length_map, List.length_map, List.length_replicate, List.length_replicate, hl]
  · unfold initG at hi
    unfold L2.start
    by_cases c : i < ds.length
    · rw [List.getElem?_append_left (by rw [List.length_map]; exact c), List.getElem?_map] at hi
      rw [List.getElem?_append_left (by rw [List.length_map, hl]; exact c), List.getElem?_map]
      cases e : ds[i]? with
      | none => rw [e] at hi; cases hi
      | some d' =>
        rw [e] at hi
        cases hi
        obtain ⟨v, hv, hD⟩ := h.got e
        exact ⟨v, by rw [hv]; rfl, hD⟩
    · rw [List.getElem?_append_right (by rw [List.length_map]; omega), List.getElem?_replicate] at hi
      split at hi <;> cases hi
  · unfold initG at hi
    by_cases c : i < ds.length
    · rw [List.getElem?_append_left (by rw [List.length_map]; exact c), List.getElem?_map] at hi
      cases e : ds[i]? with
      | none => rw [e] at hi; cases hi
      | some d' => rw [e] at hi; cases hi
    · rw [List.getElem?_append_right (by rw [List.length_map]; omega), List.getElem?_replicate] at hi
      split at hi <;> cases hi
/-- what a def's body is to do -/
def Does (t : TS) (N : List Str) (R : List PyData → PyData → Prop) : Prop := ∀ O H (ds : List PyData) (d : PyData) σ (Q : VK), R ds d → Ats O [([], H)] σ H (initG N ds) → (∀ v H2, Same H H2 → Da (cut O H2) v d → Q v H2) → t { nx := fun _ H' => Q .non H', rt := Q } σ H
section
variable {P : Program} {w : World} {K : PySem.W.Frag} {mg : Str → Option Value} {base : Heap}
theorem ok_fd {x qual : Str} {st : Stmt} {f : Addr} {fd : FuncData} {N ps : List Str} {k : Nat} {R : List PyData → PyData → Prop} (F : Fun K x qual st f fd) (S : FnScope N ps (defScope st)) (len : ∀ ds d, R ds d → ds.length = ps.length)
    (hbody : ∀ (cdv : Value) (A : Around) (outer : List Env) (s : Shared) (H : Hp) (E : XK), Room k (A.deeper (envOfC qual (defScope st) s.heap.objs.size f cdv)) →
      ∃ t, PSs (cxOf CX0 P w K mg base N qual (defScope st) f cdv A outer s H E).nox (defBody st) t ∧ Does t N R) : FnOk P w K mg base CX0 (k + 1) f fd ps (FD R) := by
  refine F.ok S (fun vs H Q E h => ?_) (fun cdv A outer s H vs Q E hr h => ?_)
  · obtain ⟨O, ds, d, _, ha, hR, _⟩ := h
    rw [ha.len, len ds d hR]
  · obtain ⟨O, ds, d, hO, ha, hR, q⟩ := h
    obtain ⟨t, h1, h2⟩ := hbody cdv A outer s H E hr
    exact ⟨t, h1, h2 O H ds d _ Q hR (ats_start hO ha) q⟩
end
end Nx
set_option maxHeartbeats 4000000
/-! the layer over data, 3: operators of several kinds, slices, isinstance, sorts -/
namespace Nx
open PySem PySem.Spec PyProof.Rows L2
section
variable {X : Cx} {K : PySem.W.Frag} {Γ : List Slv} {te ta tb : TE} {d d1 d2 : PyData} {ds es : List PyData}
theorem OD.l {r r' : R2} (h : OD r d1 d2 d) : OD (fun x y H Q => r x y H Q ∨ r' x y H Q) d1 d2 d := fun O H x y hd hx hy Q q => .inl (h O H x y hd hx hy Q q)
theorem OD.r {r r' : R2} (h : OD r' d1 d2 d) : OD (fun x y H Q => r x y H Q ∨ r' x y H Q) d1 d2 d := fun O H x y hd hx hy Q q => .inr (h O H x y hd hx hy Q q)
/-! ### + * == != [] [:] -/
abbrev rAddX (K : PySem.W.Frag) : R2 := fun x y H Q => rI0 (fun i j => .int (i + j)) x y H Q ∨ (rCat x y H Q ∨ rCatA K x y H Q)
theorem op_addX : OpR X (binaryOp .Add) (rAddX X.K) := op_add.or (op_cat.or op_catA)
theorem od_addI (i j : Int) : OD (rAddX K) (.int i) (.int j) (.int (i + j)) := OD.l (od_add i j)
theorem od_addL (hz : ds.length + es.length ≤ 1000000) : OD (rAddX K) (.list ds) (.list es) (.list (ds ++ es)) := OD.r (OD.l (od_cat hz))
theorem od_addT (hz : ds.length + es.length ≤ 1000000) : OD (rAddX K) (.tuple ds) (.tuple es) (.tuple (ds ++ es)) := OD.r (OD.r (od_catT hz))
abbrev rEqX (K : PySem.W.Frag) : R2 := fun x y H Q => rEq x y H Q ∨ rEqD K x y H Q
abbrev rNeX (K : PySem.W.Frag) : R2 := fun x y H Q => rNe x y H Q ∨ rNeD K x y H Q
theorem op_eqX (hu : X.A.units + 64 < cLine) : OpR X (compareOp .Eq) (rEqX X.K) := op_eq.or (op_eqD hu)
theorem op_neX (hu : X.A.units + 64 < cLine) : OpR X (compareOp .NotEq) (rNeX X.K) := op_ne.or (op_neD hu)
theorem od_eqD (h1 : SeqAt.shaped d1 = true) (h2 : SeqAt.shaped d2 = true) : OD (rEqX K) d1 d2 (.bool (PyData.eqv d1 d2)) := fun O H x y hd hx hy Q q =>
  .inr ⟨d1, d2, (hx.mono (SL.of cut_same)).dp, (hy.mono (SL.of cut_same)).dp, h1, h2, q _ H (Same.refl H) (.bl _)⟩
theorem od_neD (h1 : SeqAt.shaped d1 = true) (h2 : SeqAt.shaped d2 = true) : OD (rNeX K) d1 d2 (.bool (!PyData.eqv d1 d2)) := fun O H x y hd hx hy Q q =>
  .inr ⟨d1, d2, (hx.mono (SL.of cut_same)).dp, (hy.mono (SL.of cut_same)).dp, h1, h2, q _ H (Same.refl H) (.bl _)⟩
theorem od_ix_t {j : Nat} (h : ds[j]? = some d) : OD (rIx K) (.tuple ds) (.int (j : Int)) d := fun O H x y hd hx hy Q q => .inr (.inl (od_ixT h O H x y hd hx hy Q q))
theorem od_ix_l {j : Nat} (h : ds[j]? = some d) : OD (rIx K) (.list ds) (.int (j : Int)) d := fun O H x y hd hx hy Q q => .inl (od_ixL h O H x y hd hx hy Q q)
theorem od_ix_te (h : ds.getLast? = some d) : OD (rIx K) (.tuple ds) (.int (-1)) d := fun O H x y hd hx hy Q q => .inr (.inl (od_lastT h O H x y hd hx hy Q q))
theorem od_ix_le (h : ds.getLast? = some d) : OD (rIx K) (.list ds) (.int (-1)) d := fun O H x y hd hx hy Q q => .inl (od_lastL h O H x y hd hx hy Q q)
theorem ee_neg (h : EE te Γ (.int 1)) : EE (tUn (rU fun i => .int (-i)) te) Γ (.int (-1)) := fun O Bs σ H A Q q => h O Bs σ H A _ fun v H1 e1 h1 => by
  cases h1
  exact ⟨1, rfl, q _ H1 e1 (.int _)⟩
/-- slices -/
abbrev rSlX (K : PySem.W.Frag) : V → Option Int → Option Int → Hp → VK → Prop := fun x lo hi H Q => rSlA K x lo hi H Q ∨ rSlL K x lo hi H Q
theorem sl_X : SlR X (rSlX X.K) := sl_tupA.or sl_list
def EO (to : TO) (Γ : List Slv) (o : Option Int) : Prop := ∀ O Bs σ H, Ats O Bs σ H Γ → ∀ Q : Option Int → Hp → Prop, (∀ H2, Same H H2 → Q o H2) → to σ H Q
theorem eo_none : EO tNoPart Γ none := fun O Bs σ H A Q q => q H (Same.refl H)
theorem eo_some {i : Int} (h : EE te Γ (.int i)) : EO (tPart te) Γ (some i) := fun O Bs σ H A Q q => h O Bs σ H A _ fun v H1 e1 h1 => by
  cases h1
  exact ⟨i, rfl, q H1 e1⟩
def cutD (ds : List PyData) (lo hi : Option Int) : List PyData := (ds.drop (HT.sIx ds.length 0 lo)).take (HT.sIx ds.length ds.length hi - HT.sIx ds.length 0 lo)
theorem DaAll.drop {H : Hp} : ∀ {ds : List PyData} {vs : List V} (n : Nat), DaAll H vs ds → DaAll H (vs.drop n) (ds.drop n)
  | _, _, 0, h => h
  | [], _, _ + 1, h => by cases h; exact .nil
  | _ :: _, _, n + 1, h => by
    cases h with
    | cons _ b => exact DaAll.drop n b
theorem DaAll.take {H : Hp} : ∀ {ds : List PyData} {vs : List V} (n : Nat), DaAll H vs ds → DaAll H (vs.take n) (ds.take n)
  | _, _, 0, h => .nil
  | [], _, _ + 1, h => by cases h; exact .nil
  | _ :: _, _, n + 1, h => by
    cases h with
    | cons a b => exact .cons a (DaAll.take n b)
theorem DaAll.cut {H : Hp} {ds : List PyData} {vs : List V} (h : DaAll H vs ds) (lo hi : Option Int) : DaAll H (cutV vs lo hi) (cutD ds lo hi) := by
  unfold cutV cutD
  rw [h.len]
  exact (h.drop _).take _
theorem ee_slT {tl th : TO} {lo hi : Option Int} (h : EE te Γ (.tuple ds)) (hl : EO tl Γ lo) (hh : EO th Γ hi) : EE (tSl (rSlX K) te tl th) Γ (.tuple (cutD ds lo hi)) := fun O Bs σ H A Q q =>
  h O Bs σ H A _ fun v H1 e1 h1 => hl O Bs σ H1 (A.mono e1) _ fun H2 e2 => hh O Bs σ H2 ((A.mono e1).mono e2) _ fun H3 e3 => by
    have h3 := h1.mono (SL.of (cut_mono (O := O) (e2.trans e3)))
    have e := e1.trans (e2.trans e3)
    cases h3 with
    | @tup a xs _ ha hx =>
      refine .inl ⟨a, xs, rfl, SqT.of (cut_same _ _ ha), fun c => q _ H3 e ?_, fun _ p hp => q _ _ (e.trans (same_upd hp)) (da_tup (A.mono e).dom hp (hx.cut lo hi))⟩
      have z := hx.cut lo hi
      have ex : cutV xs lo hi = xs := by unfold cutV; rw [c.1, c.2]; simp
      rw [ex] at z
      exact .tup ha z
theorem ee_slL {tl th : TO} {lo hi : Option Int} (h : EE te Γ (.list ds)) (hl : EO tl Γ lo) (hh : EO th Γ hi) : EE (tSl (rSlX K) te tl th) Γ (.list (cutD ds lo hi)) := fun O Bs σ H A Q q =>
  h O Bs σ H A _ fun v H1 e1 h1 => hl O Bs σ H1 (A.mono e1) _ fun H2 e2 => hh O Bs σ H2 ((A.mono e1).mono e2) _ fun H3 e3 => by
    have h3 := h1.mono (SL.of (cut_mono (O := O) (e2.trans e3)))
    have e := e1.trans (e2.trans e3)
    cases h3 with
    | @lst a xs _ ha hx => exact .inr ⟨a, xs, rfl, SqL.of (cut_same _ _ ha), fun p hp => q _ _ (e.trans (same_upd hp)) (da_lst (A.mono e).dom hp (hx.cut lo hi))⟩
theorem cutD_from1 (ds : List PyData) : cutD ds (some 1) none = ds.drop 1 := by
  unfold cutD
  rw [show HT.sIx ds.length 0 (some 1) = min 1 ds.length from HT.sIx_nat ds.length 0 1, HT.sIx_none]
  cases ds with
  | nil => rfl
  | cons x r =>
    rw [show min 1 (x :: r).length = 1 by rw [List.length_cons]; omega]
    show (List.take ((x :: r).length - 1) r) = r
    rw [List.length_cons, Nat.add_sub_cancel]
    exact List.take_length
theorem cutD_to (ds : List PyData) (n : Nat) : cutD ds none (some (n : Int)) = ds.take n := by
  unfold cutD
  rw [HT.sIx_none, HT.sIx_nat, List.drop_zero, Nat.sub_zero]
  rcases Nat.lt_or_ge ds.length n with h | h
  · rw [Nat.min_eq_right (Nat.le_of_lt h), List.take_length, List.take_of_length_le (Nat.le_of_lt h)]
  · rw [Nat.min_eq_left h]

/-! ### isinstance -/
def tyD : PyData → String
  | .none => "NoneType"
  | .bool _ => "bool"
  | .int _ => "int"
  | .str _ => "str"
  | .list _ => "list"
  | .tuple _ => "tuple"
  | .dict _ => "dict"
theorem ty_of {H : Hp} {v : V} (h : Da H v d) : TyX K H v (.type (tyD d)) := by
  cases h with
  | non => exact .base .non
  | bl b => exact .base (.bl b)
  | int i => exact .base (.int i)
  | str x => exact .base (.str x)
  | lst a _ => exact .base (.lst a)
  | tup a _ => exact .base (.tup a)
theorem ee_isi {T t : String} {b : Bool} (h : EE te Γ d) (hk : kitB t T = some b) (ht : tyD d = t := by rfl) : EE (tCB (rIsi K) (tCons te (tCons (tC (.ty T)) tNil))) Γ (.bool b) := fun O Bs σ H A Q q => by
  subst ht
  exact h O Bs σ H A _ fun v H1 e1 h1 => ⟨v, .ty T, _, _, b, rfl, .ty T, ty_of (h1.mono (SL.of cut_same)), kit_ty hk, q _ H1 e1 (.bl b)⟩
theorem ee_isi2 {T U t : String} {b1 b2 : Bool} (h : EE te Γ d) (hk : kitB t T = some b1) (hk2 : kitB t U = some b2) (ht : tyD d = t := by rfl) : EE (tCB (rIsiT K) (tCons te (tCons (tTup (tCons (tC (.ty T)) (tCons (tC (.ty U)) tNil))) tNil))) Γ (.bool (b1 || b2)) := fun O Bs σ H A Q q => by
  subst ht
  exact h O Bs σ H A _ fun v H1 e1 h1 => ⟨by show 2 ≤ sizeLine; decide, fun p hp => ⟨v, p, [.ty T, .ty U], _, [.type T, .type U], b1 || b2, rfl, upd_same, .cons (.ty T) (.cons (.ty U) .nil), ty_of ((h1.mono (SL.of cut_same)).mono (SL.of (same_upd hp))),
    kitAny_cons (kit_ty hk) (fun e => by subst e; rw [Bool.false_or]; exact kitAny_cons (kit_ty hk2) (fun e => by subst e; exact kitAny_nil) (fun e => by subst e; rfl)) (fun e => by subst e; rfl), q _ _ (e1.trans (same_upd hp)) (.bl _)⟩⟩

/-! ### all, sorted, range as a list -/
theorem cd_all {bs : List Bool} : CD (rAll K) [.list (bs.map .bool)] (.bool (bs.all id)) := fun O H vs hd hv Q q => by
  cases hv with
  | cons a b =>
    cases b
    cases a with
    | lst h1 h2 =>
      have e := h2.sc (sc_bls bs).1
      rw [(sc_bls bs).2] at e
      subst e
      exact ⟨_, bs, rfl, SqL.of (cut_same _ _ h1), q _ H (Same.refl H) (.bl _)⟩
theorem ee_range {a b : Int} {tx : TE} (h : EE te Γ (.int a)) (h2 : EE tx Γ (.int b)) (ha : 0 ≤ a ∧ a ≤ 1000000) (hb : 0 ≤ b ∧ b ≤ 1000000) : EE (tLstRg (tRg2 te tx)) Γ (.list (rgD a (b - a).toNat)) := fun O Bs σ H A Q q =>
  h O Bs σ H A _ fun v H1 e1 h1 => h2 O Bs σ H1 (A.mono e1) _ fun v2 H2 e2 h2 => by
    cases h1
    cases h2
    refine ⟨a, b, rfl, rfl, RgOk.of_le ha.1 (by omega) (by omega) hb.1, fun p hp => q _ _ ((e1.trans e2).trans (same_upd hp)) ?_⟩
    have e : rgV a b = (rgD a (b - a).toNat).map vOf := by unfold rgV rgD; rw [List.map_map]; rfl
    rw [e]
    refine da_lst ((A.mono e1).mono e2).dom hp (das_sc ?_)
    unfold rgD
    rw [List.all_map, List.all_eq_true]
    intro x _
    rfl
theorem ea_starRg {a b : Int} {tx : TE} {tr : TA} (h : EE te Γ (.int a)) (h2 : EE tx Γ (.int b)) (ha : 0 ≤ a ∧ a ≤ 1000000) (hb : 0 ≤ b ∧ b ≤ 1000000) (hr : EA tr Γ ds) : EA (tStarRg (tRg2 te tx) tr) Γ (rgD a (b - a).toNat ++ ds) := fun O Bs σ H A Q q =>
  h O Bs σ H A _ fun v H1 e1 h1 => h2 O Bs σ H1 (A.mono e1) _ fun v2 H2 e2 h2 => by
    cases h1
    cases h2
    refine ⟨a, b, rfl, rfl, RgOk.of_le ha.1 (by omega) (by omega) hb.1, hr O Bs σ H2 ((A.mono e1).mono e2) _ fun vs H3 e3 h3 => q _ H3 ((e1.trans e2).trans e3) (.app ?_ h3)⟩
    have e : rgV a b = (rgD a (b - a).toNat).map vOf := by unfold rgV rgD; rw [List.map_map]; rfl
    rw [e]
    refine das_sc ?_
    unfold rgD
    rw [List.all_map, List.all_eq_true]
    intro x _
    rfl
theorem ea_starT {tr : TA} (h : EE te Γ (.tuple ds)) (hr : EA tr Γ es) : EA (StX.tStar K te tr) Γ (ds ++ es) := fun O Bs σ H A Q q =>
  h O Bs σ H A _ fun v H1 e1 h1 => by
    cases h1 with
    | @tup a xs _ ha hx => exact ⟨a, xs, rfl, .inl (SqT.of (cut_same _ _ ha)), hr O Bs σ H1 (A.mono e1) _ fun vs H2 e2 h2 => q _ H2 (e1.trans e2) ((hx.mono (SL.of (cut_mono e2))).app h2)⟩
theorem ea_starL {tr : TA} (h : EE te Γ (.list ds)) (hr : EA tr Γ es) : EA (StX.tStar K te tr) Γ (ds ++ es) := fun O Bs σ H A Q q =>
  h O Bs σ H A _ fun v H1 e1 h1 => by
    cases h1 with
    | @lst a xs _ ha hx => exact ⟨a, xs, rfl, .inr (SqL.of (cut_same _ _ ha)), hr O Bs σ H1 (A.mono e1) _ fun vs H2 e2 h2 => q _ H2 (e1.trans e2) ((hx.mono (SL.of (cut_mono e2))).app h2)⟩
/-- sorted(set(list of ints)) : any sorted list of the same members -/
theorem ee_sortSet {ns : List Int} {w : World} (ms : List Int) (h : EE te Γ (.list (ns.map .int))) (hz : ns.length < 64) (hm : ∀ out : List Int, out.Pairwise (· < ·) → (∀ k, k ∈ out ↔ k ∈ ns) → out = ms) :
    EE (tCB (rSortedSet w) (tCons (tCB (rSetL K w) (tCons te tNil)) tNil)) Γ (.list (ms.map .int)) := fun O Bs σ H A Q q =>
  h O Bs σ H A _ fun v H1 e1 h1 => by
    cases h1 with
    | @lst a xs _ ha hx =>
      have e := hx.sc (sc_ints ns).1
      rw [(sc_ints ns).2] at e
      subst e
      refine ⟨a, ns, rfl, SqL.of (cut_same _ _ ha), by omega, fun p n hp hn => ⟨p, _, n, rfl, upd_same, by omega, fun out p2 o1 o2 o3 hp2 => ?_⟩⟩
      have eo := hm out o1 fun k => (o2 k).trans (by simp)
      subst eo
      have A2 := (A.mono e1).mono (same_upd (o := SetO w p (fun j => decide (j ∈ ns)) n) hp)
      refine q _ _ ((e1.trans (same_upd hp)).trans (same_upd hp2)) ?_
      have e : out.map V.int = (out.map PyData.int).map vOf := (sc_ints out).2.symm
      rw [e]
      exact da_lst A2.dom hp2 (das_sc (sc_ints out).1)
end
/-- xs.index(y): ints -/
theorem ee_index {K : PySem.W.Frag} {Γ : List Slv} {te tx : TE} {ns : List Nat} {y : Nat} (h : EE te Γ (.list (ns.map fun n : Nat => .int n))) (h2 : EE tx Γ (.int (y : Int))) (hy : y ∈ ns) : EE (tBM K "list" (rIndex K) te (tCons tx tNil)) Γ (.int ((ns.idxOf y : Nat) : Int)) := fun O Bs σ H A Q q =>
  h O Bs σ H A _ fun v H1 e1 h1 => by
    cases h1 with
    | @lst a xs _ ha hx =>
      refine ⟨.inl ⟨rfl, _, SqL.of (cut_same _ _ ha)⟩, h2 O Bs σ H1 (A.mono e1) _ fun v2 H2 e2 h2 => ?_⟩
      cases h2
      have hs : (ns.map fun n : Nat => PyData.int n).all isSc = true := by
        rw [List.all_map, List.all_eq_true]
        intro x _
        rfl
      have e := hx.sc hs
      have ev : (ns.map fun n : Nat => PyData.int n).map vOf = ns.map fun n : Nat => V.int n := by rw [List.map_map]; rfl
      rw [ev] at e
      subst e
      have hl := List.idxOf_lt_length_of_mem hy
      refine ⟨a, ns.map fun n : Nat => V.int n, .int (y : Int), ns.idxOf y, .int (y : Int), rfl, rfl, SqL.of (cut_same _ _ (cut_mono e2 _ _ ha)), rfl, ?_, ?_, ?_, fun m z hm hz => ?_, q _ H2 (e1.trans e2) (.int _)⟩
      · rw [List.all_map, List.all_eq_true]
        intro x _
        rfl
      · rw [List.getElem?_map, List.getElem?_eq_getElem hl, List.getElem_idxOf]
        rfl
      · show ((y : Int) == (y : Int)) = true
        simp
      · rw [List.getElem?_map] at hz
        cases hg : ns[m]? with
        | none => rw [hg] at hz; cases hz
        | some n =>
          rw [hg] at hz
          cases hz
          show ((n : Int) == (y : Int)) = false
          have hn : n ≠ y := fun c => by
            subst c
            obtain ⟨hml, hme⟩ := List.getElem?_eq_some_iff.mp hg
            have := List.not_of_lt_findIdx (p := (· == n)) (xs := ns) (i := m) hm
            rw [hme] at this
            simp at this
          simp; omega
theorem PI.or {X : Cx} {tg it : Expr} {w1 w2 : TI} (h1 : PI X tg it w1) (h2 : PI X tg it w2) : PI X tg it (fun σ H R => w1 σ H R ∨ w2 σ H R) := ⟨fun pins s σ H R I h => by
  rcases h with h | h
  · exact h1.run pins s σ H R I h
  · exact h2.run pins s σ H R I h⟩
theorem EI.l {w1 w2 : TI} {Γ : List Slv} {ds : List PyData} (h : EI w1 Γ ds) : EI (fun σ H R => w1 σ H R ∨ w2 σ H R) Γ ds := fun O Bs σ H A R q => .inl (h O Bs σ H A R q)
theorem EI.r {w1 w2 : TI} {Γ : List Slv} {ds : List PyData} (h : EI w2 Γ ds) : EI (fun σ H R => w1 σ H R ∨ w2 σ H R) Γ ds := fun O Bs σ H A R q => .inr (h O Bs σ H A R q)
/-- a def as the module's names give it -/
structure Cl (K : PySem.W.Frag) (mg : Str → Option Value) (x : Str) (f : Addr) (fd : FuncData) (ps : List Str) : Prop where
  g : mg x = some (.ref f)
  k : PySem.W.keepIn K (.ref f) = true
  b : Binds K fd ps []
/-- the built-in names are not the module's -/
structure Bl (mg : Str → Option Value) : Prop where
  isinstance : mg "isinstance" = none
  int : mg "int" = none
  bool : mg "bool" = none
  list : mg "list" = none
  tuple : mg "tuple" = none
  str : mg "str" = none
  len : mg "len" = none
  range : mg "range" = none
  zip : mg "zip" = none
  enumerate : mg "enumerate" = none
  sorted : mg "sorted" = none
  set : mg "set" = none
  all : mg "all" = none
  abs : mg "abs" = none
  min : mg "min" = none
  ValueError : mg "ValueError" = none
end Nx
set_option maxHeartbeats 4000000
/-! the layer over data, 4: the rules with the heap's fixed part by name, for blocks -/
namespace Nx
open PySem PySem.Spec PyProof.Rows L2
section
variable {X : Cx} {K : PySem.W.Frag}
theorem ix_seqK (h : X.K = K) : IxR X (rIx K) := by subst h; exact ix_seq
theorem op_addK (h : X.K = K) : OpR X (binaryOp .Add) (rAddX K) := by subst h; exact op_addX
theorem op_inK (h : X.K = K) : OpR X (compareOp .In) (rIn K false) := by subst h; exact op_in_seq
theorem op_notInK (h : X.K = K) : OpR X (compareOp .NotIn) (rIn K true) := by subst h; exact op_notIn_seq
theorem op_eqK (h : X.K = K) (hu : X.A.units + 64 < cLine) : OpR X (compareOp .Eq) (rEqX K) := by subst h; exact op_eqX hu
theorem op_neK (h : X.K = K) (hu : X.A.units + 64 < cLine) : OpR X (compareOp .NotEq) (rNeX K) := by subst h; exact op_neX hu
theorem sl_K (h : X.K = K) : SlR X (rSlX K) := by subst h; exact sl_X
theorem len_K (h : X.K = K) : CallR X (.builtin "len") (fun xs H Q => ∃ p ys, xs = [.ref p] ∧ (SqL K H p ys ∨ SqT K H p ys) ∧ Q (.int ys.length) H) := by subst h; exact call_len_seq
theorem tup_K (h : X.K = K) : CallR X (.type "tuple") (fun xs H Q => ∃ p ys, xs = [.ref p] ∧ ((SqL K H p ys ∧ ∀ l, H l = none → Q (.ref l) (upd H l (.tup ys))) ∨ (SqT K H p ys ∧ Q (.ref p) H))) := by subst h; exact call_tuple_of
theorem list_K (h : X.K = K) : CallR X (.type "list") (fun xs H Q => ∃ p ys, xs = [.ref p] ∧ (SqL K H p ys ∨ SqT K H p ys) ∧ ∀ l, H l = none → Q (.ref l) (upd H l (.lst ys))) := by subst h; exact call_list_of
theorem isi_K (h : X.K = K) : CallR X (.builtin "isinstance") (rIsi K) := by subst h; exact call_isi
theorem isiT_K (h : X.K = K) : CallR X (.builtin "isinstance") (rIsiT K) := by subst h; exact call_isiT
theorem sorted_K (h : X.K = K) : CallR X (.builtin "sorted") (rSorted K) := by subst h; exact cr_sorted
theorem index_K (h : X.K = K) : MtR X "list.index" (rIndex K) := by subst h; exact mt_index
theorem all_K (h : X.K = K) (hc : X.calm = true) : CallR X (.builtin "all") (rAll K) := by subst h; exact cr_all hc
theorem pi_listK {tg l : Expr} {tl : TE} (h : X.K = K) (hl : PE X l tl) : PI X tg l (iList K tl) := by subst h; exact pi_list hl
theorem pi_tupK {tg l : Expr} {tl : TE} (h : X.K = K) (hl : PE X l tl) : PI X tg l (iTup K tl) := by subst h; exact pi_tup hl
theorem pi_enK {e : Expr} {ta : TA} {p pos tpos : Pos} {elts : List Expr} {kk : Nat} (h : X.K = K) (hg : Gl X "enumerate") (hm : X.mg "enumerate" = none) (ha : PA X [e] ta) (hs : starEach [e] X.env = [(false, eval e X.env)] := by rfl) :
    PI X (.Tuple elts kk tpos) (.Call (.Name "enumerate" p) [e] [] pos) (iEnT K ta) := by subst h; exact pi_enT hg hm ha hs
theorem pi_zipK {e e2 : Expr} {ta : TA} {p pos tpos : Pos} {elts : List Expr} {kk : Nat} (h : X.K = K) (hg : Gl X "zip") (hm : X.mg "zip" = none) (ha : PA X [e, e2] ta)
    (hs : starEach [e, e2] X.env = (false, eval e X.env) :: starEach [e2] X.env := by rfl) (hpl : (backTo pos (starEach [e2] X.env)).any (·.1) = false := by rfl) :
    PI X (.Tuple elts kk tpos) (.Call (.Name "zip" p) [e, e2] [] pos) (RZ.iZipA K ta) := by subst h; exact RZ.pi_zipA hg hm ha hs hpl
theorem pg_tupK {es : List Expr} {k : Nat} {t : TGs} {n : Nat} {pos : Pos} (hK : X.K = K) (hc : X.calm = true) (h : PGs X es t)
    (hn : (assignEach es X.env).length = n := by rfl) (hst : (assignEach es X.env).findIdx? (·.1) = none := by rfl) : PG X (.Tuple es k pos) (gTup K n t) := by subst hK; exact pg_tup hc h hn hst
theorem pa_starK {e : Expr} {es : List Expr} {p : Pos} {te : TE} {t : TA} (h : X.K = K) (he : PE X e te) (hr : PA X es t) (hs : starEach (.Starred e p :: es) X.env = (true, eval e X.env) :: starEach es X.env := by rfl) : PA X (.Starred e p :: es) (StX.tStar K te t) := by subst h; exact StX.pa_star he hr hs
theorem pe_bmK {T id : String} {name : Str} {o e : Expr} {es : List Expr} {to : TE} {t : TA} {r : V → List V → Hp → VK → Prop} {apos cpos : Pos} (hK : X.K = K) (pa : PlainAttrs T) (slot : Slot T name id) (hty : typeOf (.builtin id) = pure (.type "method_descriptor")) (hm : MtR X id r) (ho : PE X o to) (ha : PA X (e :: es) t)
    (hbase : attributeBase o name X.env (eval o X.env) = eval o X.env := by rfl)
    (hfew : ((backTo cpos (starEach (e :: es) X.env)).all (fun x => !x.1) && (backToKw cpos (keywordEach [] X.env)).all (fun x => x.1.isSome)
      && decide ((e :: es).length + ([] : List Keyword).length + (if ([] : List Keyword).isEmpty then 0 else 1) < 30)) = true := by rfl)
    (hline : (apos.endLine == cpos.line) = true := by rfl) (hs : starEach (e :: es) X.env = (false, eval e X.env) :: starEach es X.env := by rfl) (hplain : (backTo cpos (starEach es X.env)).any (·.1) = false := by rfl) :
    PE X (.Call (.Attribute o name apos) (e :: es) [] cpos) (tBM K T r to t) := by subst hK; exact pe_bm pa slot hty hm ho ha hbase hfew hline hs hplain
end
end Nx
set_option maxHeartbeats 4000000
/-! the layer over data, 5: lists of one's own -/
namespace Nx
open PySem PySem.Spec PyProof.Rows L2
/-- a is new since each of these marks, or marked -/
def Fr (Bs : List (List Addr × Hp)) (a : Addr) : Prop := ∀ p ∈ Bs, a ∈ p.1 ∨ p.2 a = none
/-- the list at p, one's own, holds these -/
def Ow (O : List Addr) (H : Hp) (p : Addr) (ds : List PyData) : Prop := ∃ xs, H p = some (.lst xs) ∧ DaAll (cut O H) xs ds
section
variable {O : List Addr} {Bs : List (List Addr × Hp)} {σ : L2.St} {H H' H0 : Hp} {Γ : List Slv} {te : TE} {t : TT} {tu tw : TS} {D : L2.Ends} {d : PyData} {ds : List PyData} {K : PySem.W.Frag} {p : Addr} {i : Nat}
theorem Ow.mono (h : Ow O H p ds) (e : Same H H') : Ow O H' p ds := let ⟨xs, h1, h2⟩ := h; ⟨xs, e _ _ h1, h2.mono (SL.of (cut_mono e))⟩
/-- another thing of one's own has changed -/
theorem Ow.moved {U : List Addr} (h : Ow O H p ds) (e : SameB U H H') (hU : ∀ a ∈ U, a ∈ O) (hp : p ∉ U) : Ow O H' p ds := let ⟨xs, h1, h2⟩ := h; ⟨xs, e _ _ hp h1, h2.mono (SL.of (cut_sb hU e))⟩
theorem Fr.new (A : Ats O Bs σ H Γ) (h : H p = none) : Fr Bs p := fun q hq => by
  by_cases c : p ∈ q.1
  · exact .inl c
  · refine .inr ?_
    cases z : q.2 p with
    | none => rfl
    | some o => rw [A.ex q hq p o c z] at h; cases h
theorem Ats.freeze (A : Ats (p :: O) Bs σ H Γ) (hp : p ∉ O) (hi : Γ[i]? = some (.adr p)) (h : Ow (p :: O) H p ds) : Ats O Bs σ H (Γ.set i (.dat (.list ds))) := by
  obtain ⟨xs, h1, h2⟩ := h
  have A2 := A.disown
  refine ⟨A2.dom, A2.ex, by rw [List.length_set]; exact A2.len, fun j d hj => ?_, fun j a hj => ?_⟩
  · rw [List.getElem?_set] at hj
    by_cases e : i = j
    · subst e
      rw [if_pos rfl] at hj
      split at hj
      · cases hj
        exact ⟨_, A.adr i p hi, .lst (by rw [cut_at hp]; exact h1) (h2.mono (SL.of (cut_more fun a h => List.mem_cons_of_mem _ h)))⟩
      · cases hj
    · rw [if_neg e] at hj
      exact A2.val j d hj
  · rw [List.getElem?_set] at hj
    by_cases e : i = j
    · subst e
      rw [if_pos rfl] at hj
      split at hj <;> cases hj
    · rw [if_neg e] at hj
      exact A2.adr j a hj
/-- xs = [] -/
theorem s_newL (A : Ats O Bs σ H Γ) (k : ∀ p σ' H', p ∉ O → Fr Bs p → Ats (p :: O) Bs σ' H' (Γ.set i (.adr p)) → Ow (p :: O) H' p [] → D.nx σ' H') : tAsg (tLst tNil) (gName i) D σ H :=
  ⟨Nat.zero_le _, fun p hp => k p _ _ (A.fresh hp) (Fr.new A hp) ((A.own hp).setA) ⟨[], upd_same, .nil⟩⟩
/-- xs.append(e) -/
theorem s_app (hi : Γ[i]? = some (.adr p)) (h : EE te Γ d) (A : Ats O Bs σ H Γ) (hO : p ∈ O) (hf : Fr Bs p) (w : Ow O H p ds) (hl : ds.length ≤ 4000000) (k : ∀ H', SameB [p] H H' → Ats O Bs σ H' Γ → Ow O H' p (ds ++ [d]) → D.nx σ H') : tDrop (tBM K "list" rAppend (tVar i) (tCons te tNil)) D σ H := by
  obtain ⟨xs, h1, h2⟩ := w
  refine ⟨_, A.adr i p hi, .inl ⟨rfl, xs, .inl (.inl h1)⟩, h O Bs σ H A _ fun v H1 e1 hv => ⟨p, xs, v, rfl, rfl, e1 _ _ h1, ?_, ?_⟩⟩
  · rw [h2.len, sizeLine_eq]; omega
  · have sb : SameB [p] H1 (upd H1 p (.lst (xs ++ [v]))) := fun b o hb h => by
      rw [upd_ne (fun z => hb (by rw [z]; exact List.mem_singleton.mpr rfl))]
      exact h
    refine k _ ((Same.sb e1).trans sb) ((A.mono e1).moved sb (fun a ha => by rw [List.mem_singleton.mp ha]; exact hO) (fun a ha => by rw [List.mem_singleton.mp ha, upd_same]; exact fun z => by cases z) (fun q hq a ha => by rw [List.mem_singleton.mp ha]; exact hf q hq)) ⟨_, upd_same, ?_⟩
    rw [cut_own hO]
    exact (h2.mono (SL.of (cut_mono e1))).app (.cons hv .nil)
/-- for, with a word on the heap, too -/
theorem s_forO {wi : TI} {g : TG} {ds : List PyData} (hi : EI wi Γ ds) (A : Ats O Bs σ H Γ) (Iv : Nat → List Slv → Hp → Prop) (st : ∀ i Γ' H1 H2, Same H1 H2 → Iv i Γ' H1 → Iv i Γ' H2) (h0 : Iv 0 Γ H)
    (hs : ∀ (i : Nat) (d : PyData) Γ' Bs' σ' H', ds[i]? = some d → Iv i Γ' H' → (∀ p ∈ Bs, p ∈ Bs') → (∀ a ∈ O, Fr Bs a → Fr Bs' a) → Ats O Bs' σ' H' Γ' → ∀ x, Da (cut O H') x d →
      g x σ' H' fun σ2 H2 => tu { D with nx := fun σ3 H3 => ∃ Γ2, Iv (i + 1) Γ2 H3 ∧ Ats O Bs' σ3 H3 Γ2, ct := fun σ3 H3 => ∃ Γ2, Iv (i + 1) Γ2 H3 ∧ Ats O Bs' σ3 H3 Γ2, bk := D.nx } σ2 H2)
    (hd : ∀ Γ' σ' H', Iv ds.length Γ' H' → Ats O Bs σ' H' Γ' → D.nx σ' H') : tFor wi g tu D σ H :=
  hi O Bs σ H A _ fun J H1 e1 hJ => by
    obtain ⟨G, wd, g1⟩ := hJ O (fun a h => h) (fun a h => .inl h)
    refine ⟨fun i m σ' H' => m = ds.length - i ∧ i ≤ ds.length ∧ ∃ Γ', Iv i Γ' H' ∧ Ats O ((O, H1) :: Bs) σ' H' Γ', ⟨ds.length, by simp, Nat.zero_le _, Γ, st _ _ _ _ e1 h0, (A.mono e1).mark O⟩, ?_⟩
    rintro i m σ' H' ⟨rfl, hil, Γ', h1, A'⟩
    have gi := wd.stay _ _ (cut_sb (fun a h => h) (A'.ex _ List.mem_cons_self)) g1
    by_cases hlt : i < ds.length
    · refine .inr ⟨wd.goes i H' hlt gi, fun σ2 H2 => ∃ Γ2, Iv (i + 1) Γ2 H2 ∧ Ats O ((O, H1) :: Bs) σ2 H2 Γ2, fun σ2 H2 ⟨Γ2, a, b⟩ => ⟨ds.length - (i + 1), by omega, rfl, hlt, Γ2, a, b⟩, fun x H3 hy => ?_⟩
      obtain ⟨e3, hD3⟩ := wd.yields i H' x H3 _ (List.getElem?_eq_getElem hlt) gi A'.dom hy
      refine hs i _ Γ' _ σ' H3 (List.getElem?_eq_getElem hlt) (st _ _ _ _ e3 h1) (fun p hp => List.mem_cons_of_mem _ hp) (fun a ha hf q hq => ?_) (A'.mono e3) x hD3
      rcases List.mem_cons.mp hq with e | hq
      · rw [e]; exact .inl ha
      · exact hf q hq
    · have e : i = ds.length := by omega
      subst e
      exact .inl ⟨wd.stops H' gi, hd Γ' σ' H' h1 A'.unmark⟩
/-- a name's target in a for -/
theorem g_at {vs : List Nat} {g : TG} {Γ' : List Slv} {x : V} (hg : GT vs g Γ d Γ') (A : Ats O Bs σ H Γ) (hx : Da (cut O H) x d) {Q : L2.St → Hp → Prop} (k : ∀ σ', Ats O Bs σ' H Γ' → Q σ' H) : g x σ H Q := hg O Bs σ H x A hx Q fun σ' A' _ => k σ' A'
end
end Nx
set_option maxHeartbeats 4000000
/-! the layer over data, 6: comprehensions with two walks -/
namespace Nx
open PySem PySem.Spec PyProof.Rows L2
theorem flat_take {α β : Type} (ys : α → List β) {xs : List α} {i : Nat} {x : α} (h : xs[i]? = some x) : (xs.take (i + 1)).flatMap ys = (xs.take i).flatMap ys ++ ys x := by
  rw [take_snoc h, List.flatMap_append]
  simp
theorem flat_size {α β : Type} (ys : α → List β) {xs : List α} {i : Nat} {x : α} (h : xs[i]? = some x) : ((xs.take i).flatMap ys).length + (ys x).length ≤ (xs.flatMap ys).length := by
  have e : xs.flatMap ys = (xs.take (i + 1)).flatMap ys ++ (xs.drop (i + 1)).flatMap ys := by rw [← List.flatMap_append, List.take_append_drop]
  rw [e, flat_take ys h, List.length_append, List.length_append]
  omega
section
variable {Γ : List Slv} {te : TE}
theorem ee_lc2 {α β : Type} {wi wi1 : TI} {g g1 : TG} {tt1 : TT} {vs vs1 : List Nat} (xs : List α) (enc : α → PyData) (ys : α → List β) (enc1 : β → PyData) (f : β → Bool) (y : β → PyData) (Γ' : α → List Slv) (Γ1 : α → β → List Slv) (hi : EI wi Γ (xs.map enc)) (hz : (xs.flatMap ys).length ≤ 1000000)
    (hg : ∀ x ∈ xs, GT vs g (wipeG Γ vs) (enc x) (Γ' x)) (hi1 : ∀ x ∈ xs, EI wi1 (Γ' x) ((ys x).map enc1)) (hg1 : ∀ x ∈ xs, ∀ b ∈ ys x, GT vs1 g1 (wipeG (Γ' x) vs1) (enc1 b) (Γ1 x b)) (ht1 : ∀ x ∈ xs, ∀ b ∈ ys x, ET tt1 (Γ1 x b) (f b))
    (he : ∀ x ∈ xs, ∀ b ∈ ys x, f b = true → EE te (Γ1 x b) (y b)) : EE (tLc2 wi g tYes wi1 g1 tt1 te vs vs1) Γ (.list (((xs.flatMap ys).filter f).map y)) := fun O Bs σ H A Q q =>
  hi O Bs σ H A _ fun J H1 e1 hJ D hD => by
    have A1 := A.mono e1
    obtain ⟨G, wd, g1'⟩ := hJ (D :: O) (fun a h => List.mem_cons_of_mem _ h) (fun a h => by
      rcases List.mem_cons.mp h with e | e
      · exact .inr (by rw [e]; exact hD)
      · exact .inl e)
    have hB : ∀ p ∈ ([], H1) :: Bs, ∀ a ∈ [D], a ∈ p.1 ∨ p.2 a = none := fun p hp a ha => by
      rw [List.mem_singleton.mp ha]
      rcases List.mem_cons.mp hp with e | hp
      · rw [e]; exact .inr hD
      · exact Fr.new A1 hD p hp
    have gl : (xs.map enc).length = xs.length := List.length_map ..
    refine ⟨fun i m H' => m = xs.length - i ∧ i ≤ xs.length ∧ Ats (D :: O) (([], H1) :: Bs) (wipe σ vs) H' (wipeG Γ vs) ∧ G H' ∧ ∃ acc, H' D = some (.lst acc) ∧ DaAll (cut (D :: O) H') acc ((((xs.take i).flatMap ys).filter f).map y), ⟨xs.length, by simp, Nat.zero_le _, ((A1.mark []).wipe vs).own hD, wd.stay _ _ ?_ g1', [], upd_same, .nil⟩, ?_⟩
    · rw [cut_new hD, cut_cons hD]; exact Same.refl _
    · rintro i m H' ⟨rfl, hil, A2, g2, acc, hacc, hda⟩
      by_cases hlt : i < xs.length
      · refine .inr ⟨wd.goes i H' (by rw [gl]; exact hlt) g2, fun H'' => Ats (D :: O) (([], H1) :: Bs) (wipe σ vs) H'' (wipeG Γ vs) ∧ G H'' ∧ ∃ acc, H'' D = some (.lst acc) ∧ DaAll (cut (D :: O) H'') acc ((((xs.take (i + 1)).flatMap ys).filter f).map y), fun H'' h => ⟨xs.length - (i + 1), by omega, rfl, hlt, h⟩, fun x H3 hy => ?_⟩
        have hx : xs[i]? = some xs[i] := List.getElem?_eq_getElem hlt
        have hm : xs[i] ∈ xs := List.getElem_mem hlt
        obtain ⟨e3, hD3⟩ := wd.yields i H' x H3 (enc xs[i]) (by rw [List.getElem?_map, hx]; rfl) g2 A2.dom hy
        have A3 := A2.mono e3
        have hz2 := flat_size ys hx
        refine hg _ hm _ _ _ _ _ A3 hD3 _ fun σ2 A4 ew => ⟨?_, ?_⟩
        · rw [ew]
          refine List.ext_getElem? fun j => ?_
          rw [wipe_get, wipe_get]
          by_cases hj : j ∈ vs
          · rw [if_pos hj, if_pos hj, Option.map_map]; rfl
          · rw [if_neg hj]
        · refine hi1 _ hm _ _ _ _ A4 _ fun J1 H4 e4 hJ1 => ?_
          obtain ⟨G1, wd1, g11⟩ := hJ1 (D :: O) (fun a h => h) (fun a h => .inl h)
          have gl1 : ((ys xs[i]).map enc1).length = (ys xs[i]).length := List.length_map ..
          refine ⟨fun j k H5 => k = (ys xs[i]).length - j ∧ j ≤ (ys xs[i]).length ∧ Ats (D :: O) (([], H1) :: Bs) (wipe σ vs) H5 (wipeG Γ vs) ∧ Ats (D :: O) (([], H1) :: Bs) (wipe σ2 vs1) H5 (wipeG (Γ' xs[i]) vs1) ∧ G H5 ∧ G1 H5 ∧ ∃ acc, H5 D = some (.lst acc) ∧ DaAll (cut (D :: O) H5) acc ((((xs.take i).flatMap ys ++ (ys xs[i]).take j).filter f).map y),
            ⟨(ys xs[i]).length, by simp, Nat.zero_le _, A3.mono e4, (A4.mono e4).wipe vs1, wd.stay _ _ (cut_mono (e3.trans e4)) g2, g11, acc, e4 _ _ (e3 _ _ hacc), by rw [List.take_zero, List.append_nil]; exact hda.mono (SL.of (cut_mono (e3.trans e4)))⟩, ?_⟩
          rintro j k H5 ⟨rfl, hjl, A5, A6, g5, g15, acc5, hacc5, hda5⟩
          by_cases hlt1 : j < (ys xs[i]).length
          · refine .inr ⟨wd1.goes j H5 (by rw [gl1]; exact hlt1) g15, fun H'' => Ats (D :: O) (([], H1) :: Bs) (wipe σ vs) H'' (wipeG Γ vs) ∧ Ats (D :: O) (([], H1) :: Bs) (wipe σ2 vs1) H'' (wipeG (Γ' xs[i]) vs1) ∧ G H'' ∧ G1 H'' ∧ ∃ acc, H'' D = some (.lst acc) ∧ DaAll (cut (D :: O) H'') acc ((((xs.take i).flatMap ys ++ (ys xs[i]).take (j + 1)).filter f).map y), fun H'' h => ⟨(ys xs[i]).length - (j + 1), by omega, rfl, hlt1, h⟩, fun x1 H6 hy1 => ?_⟩
            have hx1 : (ys xs[i])[j]? = some (ys xs[i])[j] := List.getElem?_eq_getElem hlt1
            have hm1 : (ys xs[i])[j] ∈ ys xs[i] := List.getElem_mem hlt1
            obtain ⟨e6, hD6⟩ := wd1.yields j H5 x1 H6 (enc1 (ys xs[i])[j]) (by rw [List.getElem?_map, hx1]; rfl) g15 A6.dom hy1
            have A7 := A6.mono e6
            refine hg1 _ hm _ hm1 _ _ _ _ _ A7 hD6 _ fun σ3 A8 ew3 => ⟨?_, ht1 _ hm _ hm1 _ _ _ _ A8 _ fun H7 e7 => ?_⟩
            · rw [ew3]
              refine List.ext_getElem? fun j => ?_
              rw [wipe_get, wipe_get]
              by_cases hj : j ∈ vs1
              · rw [if_pos hj, if_pos hj, Option.map_map]; rfl
              · rw [if_neg hj]
            · have e67 := e6.trans e7
              have A9 := A5.mono e67
              have A10 := A6.mono e67
              have g7 := wd.stay _ _ (cut_mono e67) g5
              have g17 := wd1.stay _ _ (cut_mono e67) g15
              cases hf : f (ys xs[i])[j] with
              | false =>
                refine ⟨A9, A10, g7, g17, acc5, e67 _ _ hacc5, ?_⟩
                rw [take_snoc hx1, ← List.append_assoc, List.filter_append (l₁ := _ ++ _), filt1, hf]
                simp only [Bool.false_eq_true, if_false, List.append_nil]
                exact hda5.mono (SL.of (cut_mono e67))
              | true =>
                refine he _ hm _ hm1 hf _ _ _ _ (A8.mono e7) _ fun v H8 e8 h8 => ⟨acc5, e8 _ _ (e67 _ _ hacc5), ?_, ?_⟩
                · have h1 := hda5.len
                  have h2 := List.length_filter_le f ((xs.take i).flatMap ys ++ (ys xs[i]).take j)
                  rw [List.length_map] at h1
                  rw [List.length_append, List.length_take] at h2
                  rw [sizeLine_eq]
                  omega
                · have sb : SameB [D] H8 (upd H8 D (.lst (acc5 ++ [v]))) := fun b o hb h => by
                    rw [upd_ne (fun z => hb (by rw [z]; exact List.mem_singleton.mpr rfl))]
                    exact h
                  have mv : ∀ {σ : L2.St} {Γ : List Slv}, Ats (D :: O) (([], H1) :: Bs) σ H7 Γ → Ats (D :: O) (([], H1) :: Bs) σ (upd H8 D (.lst (acc5 ++ [v]))) Γ := fun A => (A.mono e8).moved sb (fun a ha => by rw [List.mem_singleton.mp ha]; exact List.mem_cons_self) (fun a ha => by rw [List.mem_singleton.mp ha, upd_same]; exact fun z => by cases z) hB
                  refine ⟨mv A9, mv A10, wd.stay _ _ ?_ (wd.stay _ _ (cut_mono e8) g7), wd1.stay _ _ ?_ (wd1.stay _ _ (cut_mono e8) g17), _, upd_same, ?_⟩
                  · rw [cut_own List.mem_cons_self]; exact Same.refl _
                  · rw [cut_own List.mem_cons_self]; exact Same.refl _
                  · rw [cut_own List.mem_cons_self, take_snoc hx1, ← List.append_assoc, List.filter_append (l₁ := _ ++ _), List.map_append, filt1, hf]
                    exact (hda5.mono (SL.of (cut_mono (e67.trans e8)))).app (.cons h8 .nil)
          · have e : j = (ys xs[i]).length := by omega
            subst e
            refine .inl ⟨by have := wd1.stops H5 g15; rw [gl1] at this; exact this, A5, g5, acc5, hacc5, ?_⟩
            rw [flat_take ys hx]
            rw [List.take_length] at hda5
            exact hda5
      · have e : i = xs.length := by omega
        subst e
        refine .inl ⟨by have := wd.stops H' g2; rw [gl] at this; exact this, q _ H' (e1.trans (A2.ex _ List.mem_cons_self).same) ?_⟩
        rw [List.take_length] at hda
        exact .lst (by rw [cut_at fun z => A1.dom D z hD]; exact hacc) (hda.mono (SL.of (cut_more fun a h => List.mem_cons_of_mem _ h)))
end
end Nx
set_option maxHeartbeats 4000000
/-! the layer over data, 7: what is read of one's own lists -/
namespace Nx
open PySem PySem.Spec PyProof.Rows L2
/-- as EE, at a heap -/
def EH (te : TE) (O : List Addr) (σ : L2.St) (H : Hp) (d : PyData) : Prop := ∀ H1, Same H H1 → ∀ Q : VK, (∀ v H2, Same H1 H2 → Da (cut O H2) v d → Q v H2) → te σ H1 Q
def TH (tt : TT) (σ : L2.St) (H : Hp) (b : Bool) : Prop := ∀ Q : Bool → Hp → Prop, (∀ H2, Same H H2 → Q b H2) → tt σ H Q
section
variable {O : List Addr} {Bs : List (List Addr × Hp)} {σ : L2.St} {H H' H0 : Hp} {Γ : List Slv} {te ta tb : TE} {t : TT} {tu tw : TS} {D : L2.Ends} {d d1 d2 : PyData} {ds : List PyData} {K : PySem.W.Frag} {p : Addr} {i : Nat}
theorem eh_of (h : EE te Γ d) (A : Ats O Bs σ H Γ) : EH te O σ H d := fun H1 e1 Q q => h O Bs σ H1 (A.mono e1) Q q
theorem EH.mono (h : EH te O σ H d) (e : Same H H') : EH te O σ H' d := fun H1 e1 Q q => h H1 (e.trans e1) Q q
theorem eh_is (h : EH te O σ H d1) (e : d1 = d2) : EH te O σ H d2 := e ▸ h
theorem dom_mono (hd : ∀ a ∈ O, H a ≠ none) (e : Same H H') : ∀ a ∈ O, H' a ≠ none := fun a ha z => by
  cases q : H a with
  | none => exact hd a ha q
  | some o => rw [e a o q] at z; cases z
theorem eh_op {r : R2} (hd : ∀ a ∈ O, H a ≠ none) (ho : OD r d1 d2 d) (ha : EH ta O σ H d1) (hb : EH tb O σ H d2) : EH (tOp r ta tb) O σ H d := fun H0 e0 Q q =>
  ha H0 e0 _ fun v1 H1 e1 h1 => hb H1 (e0.trans e1) _ fun v2 H2 e2 h2 => ho O H2 v1 v2 (dom_mono hd ((e0.trans e1).trans e2)) (h1.mono (SL.of (cut_mono e2))) h2 Q fun v H3 e3 h3 => q v H3 ((e1.trans e2).trans e3) h3
theorem eh_tup2 (hd : ∀ a ∈ O, H a ≠ none) (ha : EH ta O σ H d1) (hb : EH tb O σ H d2) : EH (tTup (tCons ta (tCons tb tNil))) O σ H (.tuple [d1, d2]) := fun H0 e0 Q q =>
  ha H0 e0 _ fun v1 H1 e1 h1 => hb H1 (e0.trans e1) _ fun v2 H2 e2 h2 => ⟨by show 2 ≤ sizeLine; decide, fun p hp => q _ _ ((e1.trans e2).trans (same_upd hp)) (da_tup (dom_mono hd ((e0.trans e1).trans e2)) hp (.cons (h1.mono (SL.of (cut_mono e2))) (.cons h2 .nil)))⟩
theorem eh_cb1 {r : List V → Hp → VK → Prop} (hd : ∀ a ∈ O, H a ≠ none) (hr : CD r [d1] d) (ha : EH ta O σ H d1) : EH (tCB r (tCons ta tNil)) O σ H d := fun H0 e0 Q q =>
  ha H0 e0 _ fun v1 H1 e1 h1 => hr O H1 [v1] (dom_mono hd (e0.trans e1)) (.cons h1 .nil) Q fun v H2 e2 h2 => q v H2 (e1.trans e2) h2
/-- a slot that holds one's own list -/
theorem eh_lenO (A : Ats O Bs σ H Γ) (hi : Γ[i]? = some (.adr p)) (w : Ow O H p ds) : EH (tCB (fun xs H Q => ∃ p ys, xs = [.ref p] ∧ (SqL K H p ys ∨ SqT K H p ys) ∧ Q (.int ys.length) H) (tCons (tVar i) tNil)) O σ H (.int (ds.length : Nat)) := fun H1 e1 Q q => by
  obtain ⟨xs, h1, h2⟩ := w
  refine ⟨_, A.adr i p hi, p, xs, rfl, .inl (SqL.of (e1 _ _ h1)), ?_⟩
  rw [h2.len]
  exact q _ H1 (Same.refl _) (.int _)
theorem eh_ixO {j : Nat} (A : Ats O Bs σ H Γ) (hi : Γ[i]? = some (.adr p)) (w : Ow O H p ds) (hj : EH tb O σ H (.int (j : Int))) (h : ds[j]? = some d) : EH (tOp (rIx K) (tVar i) tb) O σ H d := fun H1 e1 Q q => by
  obtain ⟨xs, h1, h2⟩ := w
  refine ⟨_, A.adr i p hi, hj H1 e1 _ fun v H2 e2 hv => ?_⟩
  cases hv
  obtain ⟨v, hv, hD⟩ := h2.got h
  exact .inl ⟨p, xs, _, v, rfl, rfl, SqL.of (e2 _ _ (e1 _ _ h1)), atI_nat hv, q v H2 e2 (hD.mono (SL.of (cut_mono (e1.trans e2))))⟩
theorem th_test {b : Bool} (h : EH te O σ H (.bool b)) : TH (tTest te) σ H b := fun Q q => h H (Same.refl _) _ fun v H1 e1 hv => by
  cases hv
  exact ⟨b, rfl, q H1 e1⟩
theorem s_ifH {b : Bool} (h : TH t σ H b) (A : Ats O Bs σ H Γ) (h1 : b = true → ∀ H', Same H H' → Ats O Bs σ H' Γ → tu D σ H') (h2 : b = false → ∀ H', Same H H' → Ats O Bs σ H' Γ → tw D σ H') : tIfS t tu tw D σ H :=
  h _ fun H1 e1 => by
    cases b with
    | true =>
      show tu D σ H1
      exact h1 rfl H1 e1 (A.mono e1)
    | false =>
      show tw D σ H1
      exact h2 rfl H1 e1 (A.mono e1)
theorem s_asgH {g : TG} {Γ' : List Slv} (vs : List Nat) (h : EH te O σ H d) (A : Ats O Bs σ H Γ) (hg : GT vs g Γ d Γ') (k : ∀ σ' H', Same H H' → Ats O Bs σ' H' Γ' → D.nx σ' H') : tAsg te g D σ H :=
  h H (Same.refl _) _ fun v H1 e1 h1 => hg O Bs σ H1 v (A.mono e1) h1 _ fun σ' A' _ => k σ' H1 e1 A'
theorem s_setH (h : EH te O σ H d) (A : Ats O Bs σ H Γ) (k : ∀ σ' H', Same H H' → Ats O Bs σ' H' (Γ.set i (.dat d)) → D.nx σ' H') : tAsg te (gName i) D σ H :=
  h H (Same.refl _) _ fun v H1 e1 h1 => k _ H1 e1 ((A.mono e1).set h1)
theorem s_setE (h : EE te Γ d) (A : Ats O Bs σ H Γ) (k : ∀ σ' H', Same H H' → Ats O Bs σ' H' (Γ.set i (.dat d)) → D.nx σ' H') : tAsg te (gName i) D σ H :=
  h O Bs σ H A _ fun v H1 e1 h1 => k _ H1 e1 ((A.mono e1).set h1)
theorem s_retH (h : EH te O σ H d) (k : ∀ v H2, Same H H2 → Da (cut O H2) v d → D.rt v H2) : tRet te D σ H := h H (Same.refl _) _ k
/-- while, with a word on the heap, too -/
theorem s_whileO {α : Type} (G : α → List Slv) (b : α → Bool) (μ : α → Nat) (Iv : α → Hp → Prop) (st : ∀ x H1 H2, Same H1 H2 → Iv x H1 → Iv x H2) (x0 : α) (h0 : Iv x0 H) (A : Ats O Bs σ H (G x0)) (ht : ∀ x σ H, Iv x H → Ats O Bs σ H (G x) → TH t σ H (b x))
    (hs : ∀ x σ H, Iv x H → b x = true → Ats O Bs σ H (G x) → tu { D with nx := fun σ' H' => ∃ y, Iv y H' ∧ μ y < μ x ∧ Ats O Bs σ' H' (G y), ct := fun σ' H' => ∃ y, Iv y H' ∧ μ y < μ x ∧ Ats O Bs σ' H' (G y), bk := D.nx } σ H)
    (hd : ∀ x σ H, Iv x H → b x = false → Ats O Bs σ H (G x) → D.nx σ H) : tWhile t tu D σ H :=
  ⟨fun m σ' H' => ∃ x, m = μ x ∧ Iv x H' ∧ Ats O Bs σ' H' (G x), ⟨_, x0, rfl, h0, A⟩, fun m σ' H' ⟨x, em, hx, A'⟩ => ht x σ' H' hx A' _ fun H1 e1 => by
    subst em
    cases hb : b x with
    | true => exact ⟨fun σ2 H2 => ∃ y, Iv y H2 ∧ μ y < μ x ∧ Ats O Bs σ2 H2 (G y), fun σ2 H2 ⟨y, h1, h2, h3⟩ => ⟨μ y, h2, y, rfl, h1, h3⟩, hs x σ' H1 (st _ _ _ e1 hx) hb (A'.mono e1)⟩
    | false => exact hd x σ' H1 (st _ _ _ e1 hx) hb (A'.mono e1)⟩
end
end Nx
set_option maxHeartbeats 4000000
/-! the layer over data, 8: defs that may raise one class without arguments -/
namespace Nx
open PySem PySem.Spec PyProof.Rows L2
section
variable {X : Cx} {C : Addr} {bmB : List Value} {B newId initId : String}
/-- X() -/
theorem pmk_own0 {x : Str} {p pos : Pos} (F : ExcBaseFacts B newId initId bmB) (q : PySem.W.excIn X.K C bmB newId = true) (gC : X.mg x = some (.ref C)) (kC : PySem.W.keepIn X.K (.ref C) = true) (r : Raises X (.ref C)) (hg : Gl X x)
    (hdb : (x == ("__debug__" : Str)) = false := by decide) : PMk X (.Call (.Name x p) [] [] pos) (fun _ H Q => Q (.ref C) none H) := by
  intro pins s σ H Q I h
  refine wpAny_Call_Name_kw (ld_glob I hg gC ?_ hdb)
  refine PySem.W.callWith_K0 I.kIn kC ?_
  show wpAny _ _ (call (.ref C) []) _ _ _
  obtain ⟨bm, N, nm, qn, bs, hdct, sn, sub, ab, col, dd, k0, k1, k2, k3, k5, mN, hC, hN, hni, T⟩ := exc_obj I.kIn q
  obtain ⟨hp1, g1, d1, tk1, os1⟩ := s
  refine wpAny_call_exc_subT F T hC hN hni (fun h' e hm => ?_) (Nat.zero_le _)
  exact mk_of I hm r h (I.hok.gone hm.new)
end
/-- what the class CanNot is -/
structure Cn (K : PySem.W.Frag) (mg : Str → Option Value) (C : Addr) : Prop where
  gP : mg "CanNot" = some (.ref C)
  xP : PySem.W.excIn K C [.type "ValueError", .type "Exception", .type "BaseException", .type "object"] "ValueError.__new__" = true
  kP : PySem.W.keepIn K (.ref C) = true
  bP : PySem.W.subIn K (.ref C) (.type "BaseException") = some true
  tP : PySem.W.typeIn K (.ref C) = some (.type "type")
  iP : PySem.W.isClsIn K C = true
  sP : PySem.W.subIn K (.ref C) (.ref C) = some true
  xC : ExcC K C
  vP : PySem.W.kitOne K (.ref C) (.type "ValueError") = some true
/-- a def that comes to one datum or raises C() -/
def FX (C : Addr) (R : List PyData → Option PyData → Prop) : Sp := fun vs H Q E => ∃ O ds d, (∀ a ∈ O, H a ≠ none) ∧ DaAll (cut O H) vs ds ∧ R ds d ∧ (∀ r, d = some r → ∀ v H2, Same H H2 → Da (cut O H2) v r → Q v H2) ∧ (d = none → ∀ H2, Same H H2 → E (.ref C) none H2)
section
variable {P : Program} {w : World} {K : PySem.W.Frag} {mg : Str → Option Value} {base : Heap} {C : Addr}
theorem ok_fx {x qual : Str} {st : Stmt} {f : Addr} {fd : FuncData} {N ps : List Str} {k : Nat} {R : List PyData → Option PyData → Prop} (F : Fun K x qual st f fd) (S : FnScope N ps (defScope st)) (len : ∀ ds d, R ds d → ds.length = ps.length)
    (hbody : ∀ (cdv : Value) (A : Around) (outer : List Env) (s : Shared) (H : Hp) (E : XK), Room k (A.deeper (envOfC qual (defScope st) s.heap.objs.size f cdv)) →
      ∃ t, PSs (cxOf (L2.CX P w) P w K mg base N qual (defScope st) f cdv A outer s H E) (defBody st) t ∧ ∀ O H (ds : List PyData) (d : Option PyData) σ (Q : VK), R ds d → Ats O [([], H)] σ H (initG N ds) → (∀ r, d = some r → ∀ v H2, Same H H2 → Da (cut O H2) v r → Q v H2) →
        (d = none → ∀ H2, Same H H2 → E (.ref C) none H2) → t { nx := fun _ H' => Q .non H', rt := Q } σ H) : FnOk P w K mg base (L2.CX P w) (k + 1) f fd ps (FX C R) := by
  refine F.okX S (fun vs H Q E h => ?_) (fun cdv A outer s H vs Q E hr h => ?_)
  · obtain ⟨O, ds, d, _, ha, hR, _⟩ := h
    rw [ha.len, len ds d hR]
  · obtain ⟨O, ds, d, hO, ha, hR, q, qe⟩ := h
    obtain ⟨t, h1, h2⟩ := hbody cdv A outer s H E hr
    exact ⟨t, h1, h2 O H ds d _ Q hR (ats_start hO ha) q qe⟩
end
end Nx
set_option maxHeartbeats 4000000
/-! the layer over data, 9: drawing from an urn -/
namespace Nx
open PySem PySem.Spec PyProof.Rows L2
/-! ### more operations -/
section
variable {Γ : List Slv} {ta tb te : TE} {d d1 d2 : PyData} {ds : List PyData} {K : PySem.W.Frag}
theorem od_rI {C : Int → Int → Prop} {g : Int → Int → Int} {i j : Int} (hc : C i j) : OD (rI C fun i j => .int (g i j)) (.int i) (.int j) (.int (g i j)) := fun O H x y hd hx hy Q q => by
  cases hx
  cases hy
  exact ⟨i, j, rfl, rfl, hc, q _ H (Same.refl H) (.int _)⟩
theorem od_mulI {i j : Int} (h : CMul i j) : OD (rI CMul fun i j => .int (i * j)) (.int i) (.int j) (.int (i * j)) := od_rI (g := fun i j => i * j) h
theorem od_modI {i j : Int} (h : 0 < j) : OD (rI (fun _ j => 0 < j) fun i j => .int (i % j)) (.int i) (.int j) (.int (i % j)) := od_rI (C := fun _ j => 0 < j) (g := fun i j => i % j) h
theorem od_fdivI {i j : Int} (h : CDiv i j) : OD (rI CDiv fun i j => .int (i / j)) (.int i) (.int j) (.int (i / j)) := od_rI (g := fun i j => i / j) h
theorem od_powI {i j : Int} (h : CPow i j) : OD (rI CPow fun i j => .int (i ^ j.toNat)) (.int i) (.int j) (.int (i ^ j.toNat)) := od_rI (g := fun i j => i ^ j.toNat) h
theorem od_ge (i j : Int) : OD (rI0 fun i j => .bl (decide (j ≤ i))) (.int i) (.int j) (.bool (decide (j ≤ i))) := od_cmp (fun i j => decide (j ≤ i)) i j
abbrev rInt1 : List V → Hp → VK → Prop := fun xs H Q => (∃ i, xs = [.int i] ∧ Q (.int i) H) ∨ ∃ k, xs = [.bl k] ∧ Q (.int (if k then 1 else 0)) H
theorem cd_int (i : Int) : CD rInt1 [.int i] (.int i) := fun O H vs hd hv Q q => by
  cases hv with
  | cons a b =>
    cases b
    cases a
    exact .inl ⟨i, rfl, q _ H (Same.refl H) (.int _)⟩
theorem cd_intB (b : Bool) : CD rInt1 [.bool b] (.int (if b then 1 else 0)) := fun O H vs hd hv Q q => by
  cases hv with
  | cons a b =>
    cases b
    cases a
    exact .inr ⟨_, rfl, q _ H (Same.refl H) (.int _)⟩
theorem cd_abs (i : Int) : CD (fun xs H Q => ∃ i, xs = [.int i] ∧ Q (.int (if i < 0 then -i else i)) H) [.int i] (.int (if i < 0 then -i else i)) := fun O H vs hd hv Q q => by
  cases hv with
  | cons a b =>
    cases b
    cases a
    exact ⟨i, rfl, q _ H (Same.refl H) (.int _)⟩
theorem cd_min (i j : Int) : CD (fun xs H Q => ∃ i j, xs = [.int i, .int j] ∧ Q (.int (if j < i then j else i)) H) [.int i, .int j] (.int (if j < i then j else i)) := fun O H vs hd hv Q q => by
  cases hv with
  | cons a b =>
    cases b with
    | cons b c =>
      cases c
      cases a
      cases b
      exact ⟨i, j, rfl, q _ H (Same.refl H) (.int _)⟩
theorem od_rep {n : Nat} (hz : ds.length * n ≤ 1000000) (hn : n ≤ 1000000) : OD rRep (.list ds) (.int (n : Int)) (.list (List.replicate n ds).flatten) := fun O H x y hd hx hy Q q => by
  cases hy
  cases hx with
  | @lst a xs _ h1 h2 =>
    refine ⟨a, (n : Int), xs, rfl, rfl, cut_same _ _ h1, by omega, by omega, ?_, fun p hp => q _ _ (same_upd hp) (da_lst hd hp ?_)⟩
    · rw [h2.len, Int.toNat_natCast, sizeLine_eq]; omega
    · rw [Int.toNat_natCast]
      have : ∀ n, DaAll (cut O H) (List.replicate n xs).flatten (List.replicate n ds).flatten := fun n => by
        induction n with
        | zero => exact .nil
        | succ n ih => rw [List.replicate_succ, List.replicate_succ, List.flatten_cons, List.flatten_cons]; exact h2.app ih
      exact this n
theorem ei_enL {ta : TA} (h : EA ta Γ [.list ds]) : EI (iEnum K ta) Γ (numD ds) := fun O Bs σ H A R q => h O Bs σ H A _ fun vs H1 e1 hv => by
  cases hv with
  | cons p r =>
    cases r
    cases p with
    | @lst a xs _ h1 h2 =>
      refine ⟨a, xs, rfl, SqL.of (cut_same _ _ h1), q _ H1 e1 fun O' o1 o2 => ⟨fun H => cut O' H a = some (.lst xs) ∧ DaAll (cut O' H) xs ds, ?_, ?_⟩⟩
      · refine wd_pair (n := xs.length) (fx := fun _ i => some (.int (i : Nat))) (fy := fun _ i => xs[i]?) (by unfold numD; rw [List.length_mapIdx, h2.len]) (fun H H' e g => ⟨e _ _ g.1, g.2.mono (SL.of e)⟩) (fun H g H' g' => ?_) (fun i H x y hi g hx hy => ?_)
        · exact (walk_enum (K := K) (a := a) (xs := xs)).mono (fun H g => SqL.of (cut_same _ _ g.1)) (fun i H x H' _ _ y => y)
        · obtain ⟨dy, h7, h8⟩ := g.2.get hy
          cases hx
          exact ⟨.int (i : Nat), dy, by unfold numD; rw [List.getElem?_mapIdx, h7]; rfl, .int _, h8⟩
      · show _ ∧ _
        rw [cut_ext o1 o2]
        exact ⟨h1, h2⟩
end
/-! ### an urn: three ints; the third counts -/
def Urn (H : Hp) (u : Addr) (m : Nat) : Prop := ∃ a b c : Int, H u = some (.lst [.int a, .int b, .int c]) ∧ 0 ≤ b ∧ b < 2 ^ 62 ∧ 0 ≤ c ∧ c ≤ (m : Int)
theorem Urn.mono {H H' : Hp} {u : Addr} {m : Nat} (h : Urn H u m) (e : Same H H') : Urn H' u m := let ⟨a, b, c, h1, h2⟩ := h; ⟨a, b, c, e _ _ h1, h2⟩
theorem Urn.more {H : Hp} {u : Addr} {m m' : Nat} (h : Urn H u m) (e : m ≤ m') : Urn H u m' := let ⟨a, b, c, h1, h2, h3, h4, h5⟩ := h; ⟨a, b, c, h1, h2, h3, h4, by omega⟩
def EU (te : TE) (Γ : List Slv) (u : Addr) (kk : Nat) (Ok : PyData → Prop) : Prop := ∀ O Bs σ H m, u ∈ O → Fr Bs u → Urn H u m → m + kk ≤ 1000000 → Ats O Bs σ H Γ → ∀ Q : VK, (∀ d v H2, Ok d → SameB [u] H H2 → Urn H2 u (m + kk) → Ats O Bs σ H2 Γ → Da (cut O H2) v d → Q v H2) → te σ H Q
def EUA (ta : TA) (Γ : List Slv) (u : Addr) (kk : Nat) (Ok : List PyData → Prop) : Prop := ∀ O Bs σ H m, u ∈ O → Fr Bs u → Urn H u m → m + kk ≤ 1000000 → Ats O Bs σ H Γ → ∀ Q : List V → Hp → Prop, (∀ ds vs H2, Ok ds → SameB [u] H H2 → Urn H2 u (m + kk) → Ats O Bs σ H2 Γ → DaAll (cut O H2) vs ds → Q vs H2) → ta σ H Q
theorem cut_u {O : List Addr} {H H' : Hp} {u : Addr} (hu : u ∈ O) (e : SameB [u] H H') : Same (cut O H) (cut O H') := cut_sb (fun a ha => by rw [List.mem_singleton.mp ha]; exact hu) e
/-- a def that draws from the urn given first -/
def FU (kk : Nat) (Pre : List PyData → Prop) (Post : List PyData → PyData → Prop) : Sp := fun vs H Q _ => ∃ O u m ds ws, vs = .ref u :: ws ∧ u ∈ O ∧ (∀ a ∈ O, H a ≠ none) ∧ Urn H u m ∧ m + kk ≤ 1000000 ∧ DaAll (cut O H) ws ds ∧ Pre ds ∧ ∀ d v H2, Post ds d → SameB [u] H H2 → Urn H2 u (m + kk) → Da (cut O H2) v d → Q v H2
section
variable {Γ : List Slv} {ta tb te : TE} {tas : TA} {d d1 d2 : PyData} {ds : List PyData} {K : PySem.W.Frag} {u : Addr} {k1 k2 kk : Nat} {Ok Ok1 Ok2 : PyData → Prop} {OkA : List PyData → Prop}
variable {O : List Addr} {Bs : List (List Addr × Hp)} {σ : L2.St} {H H' H0 : Hp} {D : L2.Ends} {t : TT} {tu tw : TS} {i m : Nat}
theorem Ats.urn (A : Ats O Bs σ H Γ) (e : SameB [u] H H') (hu : u ∈ O) (hf : Fr Bs u) (h' : ∃ o, H' u = some o) : Ats O Bs σ H' Γ :=
  A.moved e (fun a ha => by rw [List.mem_singleton.mp ha]; exact hu) (fun a ha => by rw [List.mem_singleton.mp ha]; obtain ⟨o, h⟩ := h'; rw [h]; exact fun z => by cases z) (fun q hq a ha => by rw [List.mem_singleton.mp ha]; exact hf q hq)
theorem eu_of (h : EE te Γ d) : EU te Γ u 0 (fun x => x = d) := fun O Bs σ H m hu hf hU hm A Q q => h O Bs σ H A Q fun v H2 e2 h2 => q d v H2 rfl (Same.sb e2) (hU.mono e2) (A.mono e2) h2
theorem eu_is (h : EU te Γ u kk Ok1) (e : ∀ d, Ok1 d → Ok2 d) : EU te Γ u kk Ok2 := fun O Bs σ H m hu hf hU hm A Q q => h O Bs σ H m hu hf hU hm A Q fun d v H2 o => q d v H2 (e d o)
theorem eu_op {r : R2} (ha : EU ta Γ u k1 Ok1) (hb : EU tb Γ u k2 Ok2) (ho : ∀ d1 d2, Ok1 d1 → Ok2 d2 → ∃ d, OD r d1 d2 d ∧ Ok d) : EU (tOp r ta tb) Γ u (k1 + k2) Ok := fun O Bs σ H m hu hf hU hm A Q q =>
  ha O Bs σ H m hu hf hU (by omega) A _ fun d1 v1 H1 o1 e1 U1 A1 h1 => hb O Bs σ H1 _ hu hf U1 (by omega) A1 _ fun d2 v2 H2 o2 e2 U2 A2 h2 => by
    obtain ⟨d, ho, o⟩ := ho d1 d2 o1 o2
    refine ho O H2 v1 v2 A2.dom (h1.mono (SL.of (cut_u hu e2))) h2 Q fun v H3 e3 h3 => q d v H3 o ((e1.trans e2).trans (Same.sb e3)) ?_ (A2.mono e3) h3
    rw [← Nat.add_assoc]
    exact U2.mono e3
theorem eua_nil : EUA tNil Γ u 0 (fun ds => ds = []) := fun O Bs σ H m hu hf hU hm A Q q => q [] [] H rfl (SameB.refl _ _) hU A .nil
theorem eua_cons (ha : EU ta Γ u k1 Ok1) (hb : EUA tas Γ u k2 OkA) : EUA (tCons ta tas) Γ u (k1 + k2) (fun l => ∃ d ds, l = d :: ds ∧ Ok1 d ∧ OkA ds) := fun O Bs σ H m hu hf hU hm A Q q =>
  ha O Bs σ H m hu hf hU (by omega) A _ fun d1 v1 H1 o1 e1 U1 A1 h1 => hb O Bs σ H1 _ hu hf U1 (by omega) A1 _ fun ds vs H2 o2 e2 U2 A2 h2 => by
    refine q (d1 :: ds) _ H2 ⟨d1, ds, rfl, o1, o2⟩ (e1.trans e2) ?_ A2 (.cons (h1.mono (SL.of (cut_u hu e2))) h2)
    rw [← Nat.add_assoc]
    exact U2
theorem eua_is {Ok' : List PyData → Prop} (h : EUA tas Γ u kk OkA) (e : ∀ d, OkA d → Ok' d) : EUA tas Γ u kk Ok' := fun O Bs σ H m hu hf hU hm A Q q => h O Bs σ H m hu hf hU hm A Q fun d v H2 o => q d v H2 (e d o)
theorem eua_of (h : EA tas Γ ds) : EUA tas Γ u 0 (fun x => x = ds) := fun O Bs σ H m hu hf hU hm A Q q => h O Bs σ H A Q fun v H2 e2 h2 => q ds v H2 rfl (Same.sb e2) (hU.mono e2) (A.mono e2) h2
theorem eu_cb {r : List V → Hp → VK → Prop} (ha : EUA tas Γ u kk OkA) (hr : ∀ ds, OkA ds → ∃ d, CD r ds d ∧ Ok d) : EU (tCB r tas) Γ u kk Ok := fun O Bs σ H m hu hf hU hm A Q q =>
  ha O Bs σ H m hu hf hU hm A _ fun ds vs H1 o1 e1 U1 A1 h1 => by
    obtain ⟨d, hr, o⟩ := hr ds o1
    exact hr O H1 vs A1.dom h1 Q fun v H2 e2 h2 => q d v H2 o (e1.trans (Same.sb e2)) (U1.mono e2) (A1.mono e2) h2
theorem eu_tup (ha : EUA tas Γ u kk OkA) (hl : ∀ ds, OkA ds → ds.length ≤ 1000) : EU (tTup tas) Γ u kk (fun d => ∃ ds, d = .tuple ds ∧ OkA ds) := fun O Bs σ H m hu hf hU hm A Q q =>
  ha O Bs σ H m hu hf hU hm A _ fun ds vs H1 o1 e1 U1 A1 h1 => ⟨Nat.le_of_lt (small1000 (by rw [h1.len]; exact hl ds o1)), fun p hp => q _ _ _ ⟨ds, rfl, o1⟩ (e1.trans (Same.sb (same_upd hp))) (U1.mono (same_upd hp)) (A1.mono (same_upd hp)) (da_tup A1.dom hp h1)⟩
theorem eu_lst (ha : EUA tas Γ u kk OkA) (hl : ∀ ds, OkA ds → ds.length ≤ 1000) : EU (tLst tas) Γ u kk (fun d => ∃ ds, d = .list ds ∧ OkA ds) := fun O Bs σ H m hu hf hU hm A Q q =>
  ha O Bs σ H m hu hf hU hm A _ fun ds vs H1 o1 e1 U1 A1 h1 => ⟨Nat.le_of_lt (small1000 (by rw [h1.len]; exact hl ds o1)), fun p hp => q _ _ _ ⟨ds, rfl, o1⟩ (e1.trans (Same.sb (same_upd hp))) (U1.mono (same_upd hp)) (A1.mono (same_upd hp)) (da_lst A1.dom hp h1)⟩
theorem eu_call {Pre : List PyData → Prop} {Post : List PyData → PyData → Prop} {E : XK} (hi : Γ[i]? = some (.adr u)) (ha : EUA tas Γ u k1 OkA) (hp : ∀ ds, OkA ds → Pre ds) : EU (tCall (FU k2 Pre Post) [] E (tCons (tVar i) tas)) Γ u (k1 + k2) (fun d => ∃ ds, OkA ds ∧ Post ds d) := fun O Bs σ H m hu hf hU hm A Q q =>
  ⟨_, A.adr i u hi, ha O Bs σ H m hu hf hU (by omega) A _ fun ds vs H1 o1 e1 U1 A1 h1 => by
    show FU k2 Pre Post ((.ref u :: vs) ++ []) H1 Q E
    rw [List.append_nil]
    refine ⟨O, u, _, ds, vs, rfl, hu, A1.dom, U1, by omega, h1, hp ds o1, fun d v H2 o e2 U2 h2 => ?_⟩
    have hh : ∃ o, H2 u = some o := let ⟨_, _, _, h, _⟩ := U2; ⟨_, h⟩
    refine q d v H2 ⟨ds, o1, o⟩ (e1.trans e2) ?_ (A1.urn e2 hu hf hh) h2
    rw [← Nat.add_assoc]
    exact U2⟩
/-- [e for x in range(n)], e and n drawn -/
theorem eu_lcR {x : Nat} {M : Nat} {OkN : Nat → Prop} {Γ' : Nat → List Slv} (ha : EUA tas Γ u k1 (fun l => ∃ n : Nat, l = [.int (n : Int)] ∧ n ≤ M ∧ OkN n)) (hM : M ≤ 1000) (hΓ : ∀ j : Nat, (wipeG Γ [x]).set x (.dat (.int (0 + (j : Int)))) = Γ' j) (he : ∀ j, EU te (Γ' j) u k2 Ok) :
    EU (tLc (iRng1 tas) (gName x) tYes te [x]) Γ u (k1 + M * k2) (fun d => ∃ xs : List PyData, d = .list xs ∧ xs.length ≤ M ∧ OkN xs.length ∧ ∀ y ∈ xs, Ok y) := fun O Bs σ H m hu hf hU hm A Q q =>
  ha O Bs σ H m hu hf hU (by omega) A _ fun ds vs H1 ⟨n, en, hn, okn⟩ e1 U1 A1 h1 => by
    subst en
    cases h1 with
    | cons hv hr =>
      cases hr
      cases hv
      refine ⟨(n : Int), rfl, by omega, by omega, fun D hD => ?_⟩
      rw [Int.toNat_natCast]
      have hDu : D ≠ u := fun z => by obtain ⟨_, _, _, h, _⟩ := U1; rw [z, h] at hD; cases hD
      have hB : ∀ p ∈ ([u], H1) :: Bs, ∀ a ∈ [D], a ∈ p.1 ∨ p.2 a = none := fun p hp a ha => by
        rw [List.mem_singleton.mp ha]
        rcases List.mem_cons.mp hp with e | hp
        · rw [e]; exact .inr hD
        · exact Fr.new A1 hD p hp
      have hfu : Fr (([u], H1) :: Bs) u := fun p hp => by
        rcases List.mem_cons.mp hp with e | hp
        · rw [e]; exact .inl (List.mem_singleton.mpr rfl)
        · exact hf p hp
      have U1' : Urn (upd H1 D (.lst [])) u (m + k1) := by
        obtain ⟨a, b, c, h, r⟩ := U1
        exact ⟨a, b, c, by rw [upd_ne hDu.symm]; exact h, r⟩
      refine ⟨fun i k H' => k = n - i ∧ i ≤ n ∧ Ats (D :: O) (([u], H1) :: Bs) (wipe σ [x]) H' (wipeG Γ [x]) ∧ Urn H' u (m + k1 + i * k2) ∧ ∃ (acc : List V) (ys : List PyData), H' D = some (.lst acc) ∧ DaAll (cut (D :: O) H') acc ys ∧ ys.length = i ∧ ∀ y ∈ ys, Ok y,
        ⟨n, by simp, Nat.zero_le _, ((A1.mark [u]).wipe [x]).own hD, by rw [Nat.zero_mul]; exact U1', [], [], upd_same, .nil, rfl, fun y hy => by cases hy⟩, ?_⟩
      rintro i k H' ⟨rfl, hil, A2, U2, acc, ys, hacc, hda, hyl, hyo⟩
      by_cases hlt : i < n
      · refine .inr ⟨hlt, fun H'' => Ats (D :: O) (([u], H1) :: Bs) (wipe σ [x]) H'' (wipeG Γ [x]) ∧ Urn H'' u (m + k1 + (i + 1) * k2) ∧ ∃ (acc : List V) (ys : List PyData), H'' D = some (.lst acc) ∧ DaAll (cut (D :: O) H'') acc ys ∧ ys.length = i + 1 ∧ ∀ y ∈ ys, Ok y, fun H'' h => ⟨n - (i + 1), by omega, rfl, hlt, h⟩, fun xv H3 hy => ?_⟩
        obtain ⟨rfl, rfl⟩ := hy
        have hbud : m + k1 + i * k2 + k2 ≤ 1000000 := by
          have h1 : (i + 1) * k2 ≤ M * k2 := Nat.mul_le_mul_right _ (by omega)
          rw [Nat.succ_mul] at h1
          omega
        show wipe ((wipe σ [x]).set x (some (.int (0 + (i : Int))))) [x] = wipe σ [x] ∧ _
        have ew : wipe ((wipe σ [x]).set x (some (.int (0 + (i : Int))))) [x] = wipe σ [x] := by
          rw [wipe_set (List.mem_singleton.mpr rfl)]
          refine List.ext_getElem? fun j => ?_
          rw [wipe_get, wipe_get]
          by_cases hj : j ∈ [x]
          · rw [if_pos hj, if_pos hj, Option.map_map]; rfl
          · rw [if_neg hj]
        refine ⟨ew, ?_⟩
        have A3 : Ats (D :: O) (([u], H1) :: Bs) ((wipe σ [x]).set x (some (.int (0 + (i : Int))))) H3 (Γ' i) := by
          rw [← hΓ i]
          exact A2.set (.int _)
        show te _ H3 _
        refine he i (D :: O) _ _ H3 _ (List.mem_cons_of_mem _ hu) hfu U2 hbud A3 _ fun d v H4 od e4 U4 A4 h4 => ?_
        have hacc4 : H4 D = some (.lst acc) := e4 _ _ (fun z => hDu (List.mem_singleton.mp z)) hacc
        refine ⟨acc, hacc4, ?_, ?_⟩
        · rw [hda.len, hyl, sizeLine_eq]; omega
        · have sb : SameB [D] H4 (upd H4 D (.lst (acc ++ [v]))) := fun b o hb h => by
            rw [upd_ne (fun z => hb (by rw [z]; exact List.mem_singleton.mpr rfl))]
            exact h
          have A5 : Ats (D :: O) (([u], H1) :: Bs) (wipe σ [x]) H4 (wipeG Γ [x]) := A2.urn e4 (List.mem_cons_of_mem _ hu) hfu (let ⟨_, _, _, h, _⟩ := U4; ⟨_, h⟩)
          refine ⟨A5.moved sb (fun a ha => by rw [List.mem_singleton.mp ha]; exact List.mem_cons_self) (fun a ha => by rw [List.mem_singleton.mp ha, upd_same]; exact fun z => by cases z) hB, ?_, _, ys ++ [d], upd_same, ?_, by rw [List.length_append, hyl]; rfl, fun y hy => ?_⟩
          · obtain ⟨a, b, c, h, r⟩ := U4
            refine ⟨a, b, c, by rw [upd_ne hDu.symm]; exact h, ?_⟩
            rw [Nat.succ_mul, ← Nat.add_assoc]
            exact r
          · rw [cut_own List.mem_cons_self]
            exact (hda.mono (SL.of (cut_u (List.mem_cons_of_mem _ hu) e4))).app (.cons h4 .nil)
          · rcases List.mem_append.mp hy with c | c
            · exact hyo y c
            · rw [List.mem_singleton.mp c]; exact od
      · have e : i = n := by omega
        subst e
        have A9 := A2.disown
        have ex := A2.ex ([u], H1) List.mem_cons_self
        refine .inl ⟨Nat.le_refl _, q _ _ H' ⟨ys, rfl, by omega, by rw [hyl]; exact okn, hyo⟩ (e1.trans ex) (U2.more ?_) ((A1.urn ex hu hf (let ⟨_, _, _, h, _⟩ := U2; ⟨_, h⟩))) ?_⟩
        · have := Nat.mul_le_mul_right k2 hn
          omega
        · exact .lst (by rw [cut_at fun z => A1.dom D z hD]; exact hacc) (hda.mono (SL.of (cut_more fun a h => List.mem_cons_of_mem _ h)))
/-! ### statements -/
theorem s_setU (h : EU te Γ u kk Ok) (A : Ats O Bs σ H Γ) (hu : u ∈ O) (hf : Fr Bs u) (hU : Urn H u m) (hm : m + kk ≤ 1000000) (k : ∀ d σ' H', Ok d → Ats O Bs σ' H' (Γ.set i (.dat d)) → Urn H' u (m + kk) → D.nx σ' H') : tAsg te (gName i) D σ H :=
  h O Bs σ H m hu hf hU hm A _ fun d v H1 o e1 U1 A1 h1 => k d _ H1 o (A1.set h1) U1
theorem s_asgU {g : TG} {Γ' : PyData → List Slv} (vs : List Nat) (h : EU te Γ u kk Ok) (A : Ats O Bs σ H Γ) (hg : ∀ d, Ok d → GT vs g Γ d (Γ' d)) (hu : u ∈ O) (hf : Fr Bs u) (hU : Urn H u m) (hm : m + kk ≤ 1000000) (k : ∀ d σ' H', Ok d → Ats O Bs σ' H' (Γ' d) → Urn H' u (m + kk) → D.nx σ' H') : tAsg te g D σ H :=
  h O Bs σ H m hu hf hU hm A _ fun d v H1 o e1 U1 A1 h1 => hg d o O Bs σ H1 v A1 h1 _ fun σ' A' _ => k d σ' H1 o A' U1
theorem s_retU (h : EU te Γ u kk Ok) (A : Ats O Bs σ H Γ) (hu : u ∈ O) (hf : Fr Bs u) (hU : Urn H u m) (hm : m + kk ≤ 1000000) (hB : ([u], H0) ∈ Bs) (k : ∀ d v H2, Ok d → SameB [u] H0 H2 → Urn H2 u (m + kk) → Da (cut O H2) v d → D.rt v H2) : tRet te D σ H :=
  h O Bs σ H m hu hf hU hm A _ fun d v H1 o e1 U1 A1 h1 => k d v H1 o (A1.ex _ hB) U1 h1
theorem s_retE (h : EE te Γ d) (A : Ats O Bs σ H Γ) (hU : Urn H u m) (hB : ([u], H0) ∈ Bs) (k : ∀ v H2, SameB [u] H0 H2 → Urn H2 u m → Da (cut O H2) v d → D.rt v H2) : tRet te D σ H :=
  h O Bs σ H A _ fun v H1 e1 h1 => k v H1 ((A.mono e1).ex _ hB) (hU.mono e1) h1
end
/-! ### defs -/
def initU (N : List Str) (u : Addr) (ds : List PyData) : List Slv := Slv.adr u :: ds.map Slv.dat ++ List.replicate (N.length - (ds.length + 1)) Slv.unk
theorem ats_startU {O : List Addr} {H : Hp} {N : List Str} {u : Addr} {vs : List V} {ds : List PyData} (hO : ∀ a ∈ O, H a ≠ none) (h : DaAll (cut O H) vs ds) : Ats O [([u], H)] (L2.start N (.ref u :: vs)) H (initU N u ds) := by
  have hl := h.len
  refine ⟨hO, fun p hp => by rw [List.mem_singleton.mp hp]; exact SameB.refl _ _, ?_, fun i d hi => ?_, fun i a hi => ?_⟩
  · unfold L2.start initU
    simp only [List.length_append, List.length_map, List.length_replicate, List.length_cons, hl]
  · unfold initU at hi
    unfold L2.start
    cases i with
    | zero => cases hi
    | succ i =>
      rw [List.cons_append, List.getElem?_cons_succ] at hi
      rw [List.map_cons, List.cons_append, List.getElem?_cons_succ]
      by_cases c : i < ds.length
      · rw [List.getElem?_append_left (by rw [List.length_map]; exact c), List.getElem?_map] at hi
        rw [List.getElem?_append_left (by rw [List.length_map, hl]; exact c), List.getElem?_map]
        cases e : ds[i]? with
        | none => rw [e] at hi; cases hi
        | some d' =>
          rw [e] at hi
          cases hi
          obtain ⟨v, hv, hD⟩ := h.got e
          exact ⟨v, by rw [hv]; rfl, hD⟩
      · rw [List.getElem?_append_right (by rw [List.length_map]; omega), List.getElem?_replicate] at hi
        split at hi <;> cases hi
  · unfold initU at hi
    unfold L2.start
    cases i with
    | zero =>
      cases hi
      rfl
    | succ i =>
      rw [List.cons_append, List.getElem?_cons_succ] at hi
      by_cases c : i < ds.length
      · rw [List.getElem?_append_left (by rw [List.length_map]; exact c), List.getElem?_map] at hi
        cases e : ds[i]? with
        | none => rw [e] at hi; cases hi
        | some d' => rw [e] at hi; cases hi
      · rw [List.getElem?_append_right (by rw [List.length_map]; omega), List.getElem?_replicate] at hi
        split at hi <;> cases hi
section
variable {P : Program} {w : World} {K : PySem.W.Frag} {mg : Str → Option Value} {base : Heap}
theorem ok_fu {x qual : Str} {st : Stmt} {f : Addr} {fd : FuncData} {N ps : List Str} {k kk : Nat} {Pre : List PyData → Prop} {Post : List PyData → PyData → Prop} (F : Fun K x qual st f fd) (S : FnScope N ps (defScope st)) (len : ∀ ds, Pre ds → ds.length + 1 = ps.length)
    (hbody : ∀ (cdv : Value) (A : Around) (outer : List Env) (s : Shared) (H : Hp) (E : XK), Room k (A.deeper (envOfC qual (defScope st) s.heap.objs.size f cdv)) →
      ∃ t, PSs (cxOf CX0 P w K mg base N qual (defScope st) f cdv A outer s H E).nox (defBody st) t ∧ ∀ O H u m (ds : List PyData) σ (Q : VK), Pre ds → u ∈ O → Urn H u m → m + kk ≤ 1000000 → Ats O [([u], H)] σ H (initU N u ds) →
        (∀ d v H2, Post ds d → SameB [u] H H2 → Urn H2 u (m + kk) → Da (cut O H2) v d → Q v H2) → t { nx := fun _ H' => Q .non H', rt := Q } σ H) : FnOk P w K mg base CX0 (k + 1) f fd ps (FU kk Pre Post) := by
  refine F.ok S (fun vs H Q E h => ?_) (fun cdv A outer s H vs Q E hr h => ?_)
  · obtain ⟨O, u, m, ds, ws, rfl, _, _, _, _, ha, hp, _⟩ := h
    rw [List.length_cons, ha.len, len ds hp]
  · obtain ⟨O, u, m, ds, ws, rfl, hu, hO, hU, hm, ha, hp, q⟩ := h
    obtain ⟨t, h1, h2⟩ := hbody cdv A outer s H E hr
    exact ⟨t, h1, h2 O H u m ds _ Q hp hu hU hm (ats_startU hO ha) q⟩
end
end Nx
set_option maxHeartbeats 4000000
/-! the layer over data, 10: walks at a heap, stores into one's own lists -/
namespace Nx
open PySem PySem.Spec PyProof.Rows L2
def EIH (wi : TI) (O : List Addr) (σ : L2.St) (H : Hp) (ds : List PyData) : Prop := ∀ R : It → Hp → Prop, (∀ J H1, Same H H1 → (∀ O', (∀ a ∈ O, a ∈ O') → (∀ a ∈ O', a ∈ O ∨ H1 a = none) → ∃ G, WD O' J ds G ∧ G H1) → R J H1) → wi σ H R
def CDN (r : List V → Hp → VK → Prop) (ds : List PyData) (Ok : PyData → Prop) : Prop := ∀ O H vs, (∀ a ∈ O, H a ≠ none) → DaAll (cut O H) vs ds → ∀ Q : VK, (∀ d v H2, Ok d → Same H H2 → Da (cut O H2) v d → Q v H2) → r vs H Q
theorem DaAll.set {H : Hp} : ∀ {vs : List V} {ds : List PyData} {j : Nat} {v : V} {d : PyData}, DaAll H vs ds → Da H v d → DaAll H (vs.set j v) (ds.set j d)
  | _, _, j, _, _, .nil, _ => .nil
  | _, _, 0, _, _, .cons _ b, h => .cons h b
  | _, _, j + 1, _, _, .cons a b, h => .cons a (DaAll.set b h)
theorem DaAll.erase {H : Hp} : ∀ {vs : List V} {ds : List PyData} {j : Nat}, DaAll H vs ds → DaAll H (vs.eraseIdx j) (ds.eraseIdx j)
  | _, _, j, .nil => .nil
  | _, _, 0, .cons _ b => b
  | _, _, j + 1, .cons a b => .cons a (DaAll.erase b)
section
variable {Γ : List Slv} {ta tb te tj : TE} {tas : TA} {d d1 d2 : PyData} {ds : List PyData} {K : PySem.W.Frag} {u p : Addr} {k1 k2 kk : Nat} {Ok : PyData → Prop} {OkA : List PyData → Prop}
variable {O : List Addr} {Bs : List (List Addr × Hp)} {σ : L2.St} {H H' H0 : Hp} {D : L2.Ends} {t : TT} {tu tw : TS} {i m : Nat}
theorem eih_of {wi : TI} (h : EI wi Γ ds) (A : Ats O Bs σ H Γ) : EIH wi O σ H ds := h O Bs σ H A
theorem eih_rng1 {n : Int} (h : EH te O σ H (.int n)) (h1 : n ≤ 1000000) (h2 : -1000000 ≤ n) : EIH (iRng1 (tCons te tNil)) O σ H (rgD 0 n.toNat) := fun R q => h H (Same.refl _) _ fun v H1 e1 hv => by
  cases hv
  exact ⟨n, rfl, by omega, by omega, q _ H1 e1 fun O' _ _ => ⟨_, wd_rng O' 0 n.toNat, trivial⟩⟩
theorem eh_cb2 {r : List V → Hp → VK → Prop} (hd : ∀ a ∈ O, H a ≠ none) (hr : CD r [d1, d2] d) (ha : EH ta O σ H d1) (hb : EH tb O σ H d2) : EH (tCB r (tCons ta (tCons tb tNil))) O σ H d := fun H0 e0 Q q =>
  ha H0 e0 _ fun v1 H1 e1 h1 => hb H1 (e0.trans e1) _ fun v2 H2 e2 h2 => hr O H2 [v1, v2] (dom_mono hd ((e0.trans e1).trans e2)) (.cons (h1.mono (SL.of (cut_mono e2))) (.cons h2 .nil)) Q fun v H3 e3 h3 => q v H3 ((e1.trans e2).trans e3) h3
theorem s_forH {wi : TI} {g : TG} {ds : List PyData} (hi : EIH wi O σ H ds) (A : Ats O Bs σ H Γ) (Iv : Nat → List Slv → Hp → Prop) (st : ∀ i Γ' H1 H2, Same H1 H2 → Iv i Γ' H1 → Iv i Γ' H2) (h0 : Iv 0 Γ H)
    (hs : ∀ (i : Nat) (d : PyData) Γ' Bs' σ' H', ds[i]? = some d → Iv i Γ' H' → (∀ p ∈ Bs, p ∈ Bs') → (∀ a ∈ O, Fr Bs a → Fr Bs' a) → Ats O Bs' σ' H' Γ' → ∀ x, Da (cut O H') x d →
      g x σ' H' fun σ2 H2 => tu { D with nx := fun σ3 H3 => ∃ Γ2, Iv (i + 1) Γ2 H3 ∧ Ats O Bs' σ3 H3 Γ2, ct := fun σ3 H3 => ∃ Γ2, Iv (i + 1) Γ2 H3 ∧ Ats O Bs' σ3 H3 Γ2, bk := D.nx } σ2 H2)
    (hd : ∀ Γ' σ' H', Iv ds.length Γ' H' → Ats O Bs σ' H' Γ' → D.nx σ' H') : tFor wi g tu D σ H :=
  hi _ fun J H1 e1 hJ => by
    obtain ⟨G, wd, g1⟩ := hJ O (fun a h => h) (fun a h => .inl h)
    refine ⟨fun i m σ' H' => m = ds.length - i ∧ i ≤ ds.length ∧ ∃ Γ', Iv i Γ' H' ∧ Ats O ((O, H1) :: Bs) σ' H' Γ', ⟨ds.length, by simp, Nat.zero_le _, Γ, st _ _ _ _ e1 h0, (A.mono e1).mark O⟩, ?_⟩
    rintro i m σ' H' ⟨rfl, hil, Γ', h1, A'⟩
    have gi := wd.stay _ _ (cut_sb (fun a h => h) (A'.ex _ List.mem_cons_self)) g1
    by_cases hlt : i < ds.length
    · refine .inr ⟨wd.goes i H' hlt gi, fun σ2 H2 => ∃ Γ2, Iv (i + 1) Γ2 H2 ∧ Ats O ((O, H1) :: Bs) σ2 H2 Γ2, fun σ2 H2 ⟨Γ2, a, b⟩ => ⟨ds.length - (i + 1), by omega, rfl, hlt, Γ2, a, b⟩, fun x H3 hy => ?_⟩
      obtain ⟨e3, hD3⟩ := wd.yields i H' x H3 _ (List.getElem?_eq_getElem hlt) gi A'.dom hy
      refine hs i _ Γ' _ σ' H3 (List.getElem?_eq_getElem hlt) (st _ _ _ _ e3 h1) (fun p hp => List.mem_cons_of_mem _ hp) (fun a ha hf q hq => ?_) (A'.mono e3) x hD3
      rcases List.mem_cons.mp hq with e | hq
      · rw [e]; exact .inl ha
      · exact hf q hq
    · have e : i = ds.length := by omega
      subst e
      exact .inl ⟨wd.stops H' gi, hd Γ' σ' H' h1 A'.unmark⟩
/-- xs[j] = e -/
theorem s_putO {j : Nat} (hi : Γ[i]? = some (.adr p)) (h : EH te O σ H d) (hj : EH tj O σ H (.int (j : Int))) (A : Ats O Bs σ H Γ) (hO : p ∈ O) (hf : Fr Bs p) (w : Ow O H p ds) (hjl : j < ds.length) (k : ∀ H', SameB [p] H H' → Ats O Bs σ H' Γ → Ow O H' p (ds.set j d) → D.nx σ H') : tAsg te (gSub (tVar i) tj L2.rSetL) D σ H := by
  obtain ⟨xs, h1, h2⟩ := w
  refine h H (Same.refl _) _ fun v H1 e1 hv => ⟨_, A.adr i p hi, hj H1 e1 _ fun v2 H2 e2 hv2 => ?_⟩
  cases hv2
  refine ⟨p, xs, (j : Int), j, rfl, rfl, e2 _ _ (e1 _ _ h1), ?_, ?_⟩
  · unfold ixN
    rw [if_pos (by omega), if_pos (by rw [h2.len]; omega), Int.toNat_natCast]
  · have e12 := e1.trans e2
    have sb : SameB [p] H2 (upd H2 p (.lst (xs.set j v))) := fun b o hb h => by
      rw [upd_ne (fun z => hb (by rw [z]; exact List.mem_singleton.mpr rfl))]
      exact h
    refine k _ ((Same.sb e12).trans sb) ((A.mono e12).moved sb (fun a ha => by rw [List.mem_singleton.mp ha]; exact hO) (fun a ha => by rw [List.mem_singleton.mp ha, upd_same]; exact fun z => by cases z) (fun q hq a ha => by rw [List.mem_singleton.mp ha]; exact hf q hq)) ⟨_, upd_same, ?_⟩
    rw [cut_own hO]
    exact (h2.mono (SL.of (cut_mono e12))).set (hv.mono (SL.of (cut_mono e2)))
theorem eu_cbN {r : List V → Hp → VK → Prop} (ha : EUA tas Γ u kk OkA) (hr : ∀ ds, OkA ds → CDN r ds Ok) : EU (tCB r tas) Γ u kk Ok := fun O Bs σ H m hu hf hU hm A Q q =>
  ha O Bs σ H m hu hf hU hm A _ fun ds vs H1 o1 e1 U1 A1 h1 => hr ds o1 O H1 vs A1.dom h1 Q fun d v H2 o e2 h2 => q d v H2 o (e1.trans (Same.sb e2)) (U1.mono e2) (A1.mono e2) h2
theorem cdn_sorted {ns : List Int} (hl : ns.length < 64) : CDN (rSorted K) [.list (ns.map .int)] (fun d => ∃ ms : List Int, d = .list (ms.map .int) ∧ ms.length = ns.length) := fun O H vs hd hv Q q => by
  cases hv with
  | cons a b =>
    cases b
    cases a with
    | lst h1 h2 =>
      have e := h2.sc (sc_ints ns).1
      rw [(sc_ints ns).2] at e
      subst e
      refine ⟨_, ns, rfl, SqL.of (cut_same _ _ h1), hl, fun ms p hp _ hn => q _ _ _ ⟨ms, rfl, hp.length_eq⟩ (same_upd hn) ?_⟩
      have e : ms.map V.int = (ms.map PyData.int).map vOf := (sc_ints ms).2.symm
      rw [e]
      exact da_lst hd hn (das_sc (sc_ints ms).1)
/-- the urn as a list of one's own -/
theorem Urn.ow (h : Urn H u m) : ∃ a b c : Int, Ow O H u [.int a, .int b, .int c] ∧ 0 ≤ b ∧ b < 2 ^ 62 ∧ 0 ≤ c ∧ c ≤ (m : Int) := let ⟨a, b, c, h1, h2⟩ := h; ⟨a, b, c, ⟨_, h1, .cons (.int a) (.cons (.int b) (.cons (.int c) .nil))⟩, h2⟩
theorem Ow.urn {a b c : Int} (h : Ow O H u [.int a, .int b, .int c]) (hb : 0 ≤ b ∧ b < 2 ^ 62) (hc : 0 ≤ c ∧ c ≤ (m : Int)) : Urn H u m := by
  obtain ⟨xs, h1, h2⟩ := h
  have e := DaAll.sc (ds := [.int a, .int b, .int c]) rfl h2
  subst e
  exact ⟨a, b, c, h1, hb.1, hb.2, hc.1, hc.2⟩
theorem Urn.at (h : Urn H u m) : ∃ o, H u = some o := let ⟨_, _, _, h, _⟩ := h; ⟨_, h⟩
end
end Nx
set_option maxHeartbeats 4000000
/-! the program's text, data of its things -/
namespace Nx
open PySem PySem.Spec PyProof.Rows L2
def topS (i : Nat) : Stmt := PySem.Challenge.pw_nextsuch_k40_whole_namings_by_all_little.main.body.getD i (.Pass ⟨0, 0, 0, 0⟩)
abbrev s_is_number : Stmt := topS 1
theorem sc_is_number : FnScope ["thing"] ["thing"] (defScope s_is_number) := ⟨rfl, rfl, rfl, by decide +kernel, rfl, by decide +kernel, by decide +kernel⟩
abbrev s_tuple_of : Stmt := topS 2
theorem sc_tuple_of : FnScope ["thing", "part"] ["thing"] (defScope s_tuple_of) := ⟨rfl, rfl, rfl, by decide +kernel, rfl, by decide +kernel, by decide +kernel⟩
abbrev s_sure_place : Stmt := topS 7
theorem sc_sure_place : FnScope ["text", "place"] ["text", "place"] (defScope s_sure_place) := ⟨rfl, rfl, rfl, by decide +kernel, rfl, by decide +kernel, by decide +kernel⟩
abbrev s_stands_at : Stmt := topS 9
theorem sc_stands_at : FnScope ["text", "place"] ["text", "place"] (defScope s_stands_at) := ⟨rfl, rfl, rfl, by decide +kernel, rfl, by decide +kernel, by decide +kernel⟩
abbrev s_gone_on : Stmt := topS 11
theorem sc_gone_on : FnScope ["naming", "number", "later"] ["naming", "number"] (defScope s_gone_on) := ⟨rfl, rfl, rfl, by decide +kernel, rfl, by decide +kernel, by decide +kernel⟩
abbrev s_begun : Stmt := topS 12
theorem sc_begun : FnScope ["naming", "row", "number", "own"] ["naming"] (defScope s_begun) := ⟨rfl, rfl, rfl, by decide +kernel, rfl, by decide +kernel, by decide +kernel⟩
abbrev s_with_found : Stmt := topS 13
theorem sc_with_found : FnScope ["naming", "row", "letter", "place", "number", "later"] ["naming", "row", "letter", "place", "number"] (defScope s_with_found) := ⟨rfl, rfl, rfl, by decide +kernel, rfl, by decide +kernel, by decide +kernel⟩
abbrev s_with_last : Stmt := topS 14
theorem sc_with_last : FnScope ["naming", "row", "letter", "place", "own"] ["naming", "row", "letter", "place", "own"] (defScope s_with_last) := ⟨rfl, rfl, rfl, by decide +kernel, rfl, by decide +kernel, by decide +kernel⟩
abbrev s_grown : Stmt := topS 15
theorem sc_grown : FnScope ["naming", "row", "letter", "place", "found", "number", "own"] ["naming", "row", "letter", "place"] (defScope s_grown) := ⟨rfl, rfl, rfl, by decide +kernel, rfl, by decide +kernel, by decide +kernel⟩
abbrev s_ended : Stmt := topS 16
theorem sc_ended : FnScope ["naming", "row", "size", "own", "later"] ["naming", "row", "size"] (defScope s_ended) := ⟨rfl, rfl, rfl, by decide +kernel, rfl, by decide +kernel, by decide +kernel⟩
abbrev s_form_of : Stmt := topS 17
theorem sc_form_of : FnScope ["rows", "text", "places", "form", "row", "own", "place"] ["rows", "text"] (defScope s_form_of) := ⟨rfl, rfl, rfl, by decide +kernel, rfl, by decide +kernel, by decide +kernel⟩
abbrev s_told_by_texts : Stmt := topS 18
theorem sc_told_by_texts : FnScope ["wide", "namings", "own", "rows", "left", "forms", "turn", "text", "letter", "later", "more", "form", "naming", "row"] ["wide", "namings"] (defScope s_told_by_texts) := ⟨rfl, rfl, rfl, by decide +kernel, rfl, by decide +kernel, by decide +kernel⟩
abbrev s_order_of : Stmt := topS 19
theorem sc_order_of : FnScope ["wide", "one", "other", "words", "_", "near", "far", "word"] ["wide", "one", "other"] (defScope s_order_of) := ⟨rfl, rfl, rfl, by decide +kernel, rfl, by decide +kernel, by decide +kernel⟩
abbrev s_are_one : Stmt := topS 20
theorem sc_are_one : FnScope ["wide", "one", "other"] ["wide", "one", "other"] (defScope s_are_one) := ⟨rfl, rfl, rfl, by decide +kernel, rfl, by decide +kernel, by decide +kernel⟩
abbrev s_unlike_named : Stmt := topS 21
theorem sc_unlike_named : FnScope ["wide", "one", "other", "text", "near", "far"] ["wide", "one", "other"] (defScope s_unlike_named) := ⟨rfl, rfl, rfl, by decide +kernel, rfl, by decide +kernel, by decide +kernel⟩
abbrev s_letters_there : Stmt := topS 22
theorem sc_letters_there : FnScope ["wide", "naming", "found", "text", "place", "own"] ["wide", "naming"] (defScope s_letters_there) := ⟨rfl, rfl, rfl, by decide +kernel, rfl, by decide +kernel, by decide +kernel⟩
abbrev s_text_with : Stmt := topS 23
theorem sc_text_with : FnScope ["wide", "naming", "what", "text", "place"] ["wide", "naming", "what"] (defScope s_text_with) := ⟨rfl, rfl, rfl, by decide +kernel, rfl, by decide +kernel, by decide +kernel⟩
abbrev s__law_box : Stmt := topS 25
theorem sc__law_box : FnScope ["_law_script", "_law_k", "_law_bit_so"] ["_law_script", "_law_k"] (defScope s__law_box) := ⟨rfl, rfl, rfl, by decide +kernel, rfl, by decide +kernel, by decide +kernel⟩
abbrev s__law_take : Stmt := topS 26
theorem sc__law_take : FnScope ["_law_urn", "_law_low_so", "_law_took", "_law_once", "_law_far", "_law_twice"] ["_law_urn", "_law_low_so"] (defScope s__law_take) := ⟨rfl, rfl, rfl, by decide +kernel, rfl, by decide +kernel, by decide +kernel⟩
abbrev s__law_cells : Stmt := topS 27
theorem sc__law_cells : FnScope ["_law_script", "_law_roof_so", "_law_bits_so", "_law_k", "_law_bit_so", "_law_at_so"] ["_law_script", "_law_roof_so"] (defScope s__law_cells) := ⟨rfl, rfl, rfl, by decide +kernel, rfl, by decide +kernel, by decide +kernel⟩
abbrev s__law_of : Stmt := topS 28
theorem sc__law_of : FnScope ["_law_urn", "_law_some_so"] ["_law_urn", "_law_some_so"] (defScope s__law_of) := ⟨rfl, rfl, rfl, by decide +kernel, rfl, by decide +kernel, by decide +kernel⟩
abbrev s__law_pick : Stmt := topS 29
theorem sc__law_pick : FnScope ["_law_urn", "_law_some", "_law_count", "_law_pool", "_law_found_so", "_law_lap"] ["_law_urn", "_law_some", "_law_count"] (defScope s__law_pick) := ⟨rfl, rfl, rfl, by decide +kernel, rfl, by decide +kernel, by decide +kernel⟩
abbrev s__law_lists : Stmt := topS 30
theorem sc__law_lists : FnScope ["_law_matter", "_law_bit"] ["_law_matter"] (defScope s__law_lists) := ⟨rfl, rfl, rfl, by decide +kernel, rfl, by decide +kernel, by decide +kernel⟩
abbrev s__law_same : Stmt := topS 31
theorem sc__law_same : FnScope ["_law_near", "_law_goal", "_law_mine_so", "_law_own"] ["_law_near", "_law_goal"] (defScope s__law_same) := ⟨rfl, rfl, rfl, by decide +kernel, rfl, by decide +kernel, by decide +kernel⟩
abbrev s__law_words : Stmt := topS 32
theorem sc__law_words : FnScope ["_law_wide", "_law_most_so", "_law_found_so", "_law_edge", "_law_lap", "_law_later", "_law_own", "_law_s"] ["_law_wide", "_law_most_so"] (defScope s__law_words) := ⟨rfl, rfl, rfl, by decide +kernel, rfl, by decide +kernel, by decide +kernel⟩
abbrev s__law_text : Stmt := topS 33
theorem sc__law_text : FnScope ["_law_urn", "_law_wide", "_law_most_so", "_law_lap"] ["_law_urn", "_law_wide", "_law_most_so"] (defScope s__law_text) := ⟨rfl, rfl, rfl, by decide +kernel, rfl, by decide +kernel, by decide +kernel⟩
abbrev s__law_letters_of : Stmt := topS 34
theorem sc__law_letters_of : FnScope ["_law_urn", "_law_wide", "_law_picked"] ["_law_urn", "_law_wide"] (defScope s__law_letters_of) := ⟨rfl, rfl, rfl, by decide +kernel, rfl, by decide +kernel, by decide +kernel⟩
abbrev s__law_found : Stmt := topS 35
theorem sc__law_found : FnScope ["_law_word_so", "_law_place_so", "_law_side", "_law_letters_so", "_law_places_so", "_law_k"] ["_law_word_so", "_law_place_so", "_law_side", "_law_letters_so"] (defScope s__law_found) := ⟨rfl, rfl, rfl, by decide +kernel, rfl, by decide +kernel, by decide +kernel⟩
abbrev s__law_named : Stmt := topS 36
theorem sc__law_named : FnScope ["_law_word_so", "_law_naming_here", "_law_place_so", "_law_side", "_law_letters_so"] ["_law_word_so", "_law_naming_here"] (defScope s__law_named) := ⟨rfl, rfl, rfl, by decide +kernel, rfl, by decide +kernel, by decide +kernel⟩
abbrev s__law_naming : Stmt := topS 37
theorem sc__law_naming : FnScope ["_law_urn", "_law_wide", "_law_most_so", "_law_lap"] ["_law_urn", "_law_wide", "_law_most_so"] (defScope s__law_naming) := ⟨rfl, rfl, rfl, by decide +kernel, rfl, by decide +kernel, by decide +kernel⟩
abbrev s__law_at : Stmt := topS 38
theorem sc__law_at : FnScope ["_law_word_so", "_law_place_so"] ["_law_word_so", "_law_place_so"] (defScope s__law_at) := ⟨rfl, rfl, rfl, by decide +kernel, rfl, by decide +kernel, by decide +kernel⟩
abbrev s__law_front_right : Stmt := topS 39
theorem sc__law_front_right : FnScope ["_law_before", "_law_last_1", "_law_got"] [] (defScope s__law_front_right) := ⟨rfl, rfl, rfl, by decide +kernel, rfl, by decide +kernel, by decide +kernel⟩
abbrev s__law_heard : Stmt := topS 40
theorem sc__law_heard : FnScope ["_law_door", "_law_wide", "_law_one", "_law_two", "_law_found_so", "flaw"] ["_law_door", "_law_wide", "_law_one", "_law_two"] (defScope s__law_heard) := ⟨rfl, rfl, rfl, by decide +kernel, rfl, by decide +kernel, by decide +kernel⟩
abbrev s__law_word : Stmt := topS 41
theorem sc__law_word : FnScope ["_law_near", "_law_far"] ["_law_near", "_law_far"] (defScope s__law_word) := ⟨rfl, rfl, rfl, by decide +kernel, rfl, by decide +kernel, by decide +kernel⟩
abbrev s__law_right : Stmt := topS 42
theorem sc__law_right : FnScope ["_law_urn", "_law_wide", "_law_one", "_law_two", "_law_kind_so", "_law_words_so", "_law_own", "_law_places_so", "_law_ways_so", "_law_due", "_law_apart", "_law_got", "_law_lap", "_law_word_so", "_law_there", "_law_kinds_so", "_law_goods_so", "_law_its"] ["_law_urn"] (defScope s__law_right) := ⟨rfl, rfl, rfl, by decide +kernel, rfl, by decide +kernel, by decide +kernel⟩
abbrev s_law : Stmt := topS 43
theorem sc_law : FnScope ["_law_script"] ["_law_script"] (defScope s_law) := ⟨rfl, rfl, rfl, by decide +kernel, rfl, by decide +kernel, by decide +kernel⟩
def valOf : Stmt → Option Expr
  | .Assign _ v _ => some v
  | .Return v _ => v
  | _ => none
def lcScope (d : Scope) : Option Expr → Scope
  | some (.ListComp _ _ sc _) => sc
  | _ => d
section
variable {X : Cx} {p : Pos}
theorem pe_ty_int (hg : Gl X "int") (hm : X.mg "int" = none) : PE X (.Name "int" p) (tC (.ty "int")) := pe_bltn hg hm (u := .type "int") (by decide +kernel) rfl
theorem pe_ty_bool (hg : Gl X "bool") (hm : X.mg "bool" = none) : PE X (.Name "bool" p) (tC (.ty "bool")) := pe_bltn hg hm (u := .type "bool") (by decide +kernel) rfl
theorem pe_ty_str (hg : Gl X "str") (hm : X.mg "str" = none) : PE X (.Name "str" p) (tC (.ty "str")) := pe_bltn hg hm (u := .type "str") (by decide +kernel) rfl
theorem pe_ty_list (hg : Gl X "list") (hm : X.mg "list" = none) : PE X (.Name "list" p) (tC (.ty "list")) := pe_bltn hg hm (u := .type "list") (by decide +kernel) rfl
theorem pe_ty_tuple (hg : Gl X "tuple") (hm : X.mg "tuple" = none) : PE X (.Name "tuple" p) (tC (.ty "tuple")) := pe_bltn hg hm (u := .type "tuple") (by decide +kernel) rfl
theorem pe_ty_ValueError (hg : Gl X "ValueError") (hm : X.mg "ValueError" = none) : PE X (.Name "ValueError" p) (tC (.ty "ValueError")) := pe_bltn hg hm (u := .type "ValueError") (by decide +kernel) rfl
end
section
variable {Γ : List Slv} {ta tb tc te : TE} {d1 d2 d3 d : PyData} {K : PySem.W.Frag}
theorem ee_chain {r r' : R2} {b c : Bool} (h1 : EE ta Γ d1) (h2 : EE tb Γ d2) (h3 : EE tc Γ d3) (o1 : OD r d1 d2 (.bool b)) (o2 : b = true → OD r' d2 d3 (.bool c)) : EE (tChain r r' ta tb tc) Γ (.bool (b && c)) := fun O Bs σ H A Q q =>
  h1 O Bs σ H A _ fun v1 H1 e1 g1 => h2 O Bs σ H1 (A.mono e1) _ fun v2 H2 e2 g2 => o1 O H2 v1 v2 ((A.mono e1).mono e2).dom (g1.mono (SL.of (cut_mono e2))) g2 _ fun v3 H3 e3 g3 => by
    cases g3
    have A3 := ((A.mono e1).mono e2).mono e3
    refine ⟨b, rfl, ?_⟩
    cases b with
    | false =>
      show Q (.bl false) H3
      exact q _ H3 ((e1.trans e2).trans e3) (.bl false)
    | true =>
      refine h3 O Bs σ H3 A3 _ fun v4 H4 e4 g4 => o2 rfl O H4 v2 v4 (A3.mono e4).dom (g2.mono (SL.of (cut_mono (e3.trans e4)))) g4 Q fun v5 H5 e5 g5 => q v5 H5 ((((e1.trans e2).trans e3).trans e4).trans e5) g5
theorem ee_sc (h : EE te Γ d1) (e : d1 = d2) : EE te Γ d2 := e ▸ h
theorem s_seq {t u : TS} {D : L2.Ends} {σ : L2.St} {H : Hp} (h : t { D with nx := u D } σ H) : tSeq t u D σ H := h
theorem s_next {D : L2.Ends} {σ : L2.St} {H : Hp} (h : D.nx σ H) : tNext D σ H := h
end
theorem kb_NoneType_int : kitB "NoneType" "int" = some false := by decide +kernel
theorem kb_NoneType_bool : kitB "NoneType" "bool" = some false := by decide +kernel
theorem kb_NoneType_list : kitB "NoneType" "list" = some false := by decide +kernel
theorem kb_NoneType_tuple : kitB "NoneType" "tuple" = some false := by decide +kernel
theorem kb_NoneType_str : kitB "NoneType" "str" = some false := by decide +kernel
theorem kb_bool_int : kitB "bool" "int" = some true := by decide +kernel
theorem kb_bool_bool : kitB "bool" "bool" = some true := by decide +kernel
theorem kb_bool_list : kitB "bool" "list" = some false := by decide +kernel
theorem kb_bool_tuple : kitB "bool" "tuple" = some false := by decide +kernel
theorem kb_bool_str : kitB "bool" "str" = some false := by decide +kernel
theorem kb_int_int : kitB "int" "int" = some true := by decide +kernel
theorem kb_int_bool : kitB "int" "bool" = some false := by decide +kernel
theorem kb_int_list : kitB "int" "list" = some false := by decide +kernel
theorem kb_int_tuple : kitB "int" "tuple" = some false := by decide +kernel
theorem kb_int_str : kitB "int" "str" = some false := by decide +kernel
theorem kb_str_int : kitB "str" "int" = some false := by decide +kernel
theorem kb_str_bool : kitB "str" "bool" = some false := by decide +kernel
theorem kb_str_list : kitB "str" "list" = some false := by decide +kernel
theorem kb_str_tuple : kitB "str" "tuple" = some false := by decide +kernel
theorem kb_str_str : kitB "str" "str" = some true := by decide +kernel
theorem kb_list_int : kitB "list" "int" = some false := by decide +kernel
theorem kb_list_bool : kitB "list" "bool" = some false := by decide +kernel
theorem kb_list_list : kitB "list" "list" = some true := by decide +kernel
theorem kb_list_tuple : kitB "list" "tuple" = some false := by decide +kernel
theorem kb_list_str : kitB "list" "str" = some false := by decide +kernel
theorem kb_tuple_int : kitB "tuple" "int" = some false := by decide +kernel
theorem kb_tuple_bool : kitB "tuple" "bool" = some false := by decide +kernel
theorem kb_tuple_list : kitB "tuple" "list" = some false := by decide +kernel
theorem kb_tuple_tuple : kitB "tuple" "tuple" = some true := by decide +kernel
theorem kb_tuple_str : kitB "tuple" "str" = some false := by decide +kernel
/-! ### the things as data -/
def eTx (w : Tx) : PyData := .tuple (w.map .int)
def eSide (b : Bool) : PyData := .str (if b then "next" else "last")
def ePr (p : Pr) : PyData := .tuple [eSide p.1, .tuple (p.2.map .int)]
def eNm (N : Nm) : PyData := .tuple (N.map ePr)
def eEn (e : En) : PyData := .tuple [.str (if e.1 then "at" else "on"), .int (e.2 : Nat)]
def eEnt : Ent → PyData
  | none => .none
  | some e => eEn e
def eRw (r : Rw) : PyData := .tuple (r.map eEnt)
def eStand : Sum Int Bool → PyData
  | .inl a => .int a
  | .inr false => .str "front"
  | .inr true => .str "back"
end Nx
set_option maxHeartbeats 4000000
/-! the program's defs, 1 -/
namespace Nx
open PySem PySem.Spec PyProof.Rows L2
section
variable {P : Program} {w : World} {K : PySem.W.Frag} {mg : Str → Option Value} {base : Heap}
/-! ### is_number -/
def R_is_number (ds : List PyData) (d : PyData) : Prop := ∃ i : Int, ds = [.int i] ∧ d = .bool true
theorem ok_is_number {f : Addr} {fd : FuncData} (B : Bl mg) (F : Fun K "is_number" "is_number" s_is_number f fd) : FnOk P w K mg base CX0 1 f fd ["thing"] (FD R_is_number) := by
  refine ok_fd F sc_is_number (fun ds d ⟨i, h, _⟩ => by rw [h]; rfl) (fun cdv A outer s H E hr => ⟨_, (pss_one (ps_ret (pe_and (pe_callB (isi_K (K := K) rfl) (by rfl) B.isinstance (by decide +kernel) (pa_cons (pv 0) (pa_cons (pe_ty_int (by rfl) B.int) pa_nil))) (pe_one (pe_not (pe_callB (isi_K (K := K) rfl) (by rfl) B.isinstance (by decide +kernel) (pa_cons (pv 0) (pa_cons (pe_ty_bool (by rfl) B.bool) pa_nil)))))))), ?_⟩)
  rintro O H ds d σ Q ⟨i, rfl, rfl⟩ A k
  exact s_ret (ee_andV (a := true) (b := true) (ee_isi (ee_var rfl) kb_int_int) (fun _ => ee_notV (a := false) (ee_isi (ee_var rfl) kb_int_bool))) A k
/-! ### tuple_of -/
def tupD : Nat → PyData → PyData
  | 0, x => x
  | n + 1, .list ds => .tuple (ds.map (tupD n))
  | n + 1, .tuple ds => .tuple (ds.map (tupD n))
  | _ + 1, x => x
def tree : Nat → PyData → Prop
  | 0, _ => False
  | n + 1, .list ds => ds.length ≤ 1000 ∧ ∀ d ∈ ds, tree n d
  | n + 1, .tuple ds => ds.length ≤ 1000 ∧ ∀ d ∈ ds, tree n d
  | _ + 1, .dict _ => False
  | _ + 1, _ => True
def R_tuple_of (n : Nat) (ds : List PyData) (d : PyData) : Prop := ∃ x, ds = [x] ∧ tree n x ∧ d = tupD n x
theorem ok_tuple_of {f : Addr} {fd : FuncData} (B : Bl mg) (F : Fun K "tuple_of" "tuple_of" s_tuple_of f fd) (C_tuple_of : Cl K mg "tuple_of" f fd ["thing"]) : ∀ n, FnOk P w K mg base CX0 n f fd ["thing"] (FD (R_tuple_of n))
  | 0 => by
    refine ⟨fun vs H Q E h => ?_, fun A outer s H args us vs Q E hr hE hb hv h => ?_⟩
    · obtain ⟨O, ds, d, _, ha, ⟨x, hx, t, _⟩, _⟩ := h
      exact t.elim
    · obtain ⟨O, ds, d, _, ha, ⟨x, hx, t, _⟩, _⟩ := h
      exact t.elim
  | n + 1 => by
    have G_tuple_of := ok_tuple_of B F C_tuple_of n
    refine ok_fd F sc_tuple_of (fun ds d ⟨i, h, _⟩ => by rw [h]; rfl) (fun cdv A outer s H E hr => ⟨_, (pss_cons (ps_if (pt_val (pe_callB (isiT_K (K := K) rfl) (by rfl) B.isinstance (by decide +kernel) (pa_cons (pv 0) (pa_cons (pe_tup (pa_cons (pe_ty_list (by rfl) B.list) (pa_cons (pe_ty_tuple (by rfl) B.tuple) pa_nil))) pa_nil)))) (pss_one (ps_ret (pe_callTy (tup_K (K := K) rfl) (by rfl) B.tuple (by decide +kernel) (pa_cons (pe_lc (own := [("part", 1)]) rfl sc_tuple_of.nd (PI.or (pi_list (pv 0)) (pi_tup (pv 0))) (blkOk_by (N := ["thing", "part"]) (sc := (defScope s_tuple_of)) (by decide +kernel)) (fun _ _ _ _ _ => (pg_name (i := 1) sc_tuple_of.nd rfl (.inl rfl))) (fun _ _ _ _ _ => pts_nil) (fun _ _ _ _ _ => (pe_call G_tuple_of (hr.mono (by first | decide | exact Nat.le_refl _ | omega)) (by rfl) C_tuple_of.g C_tuple_of.k C_tuple_of.b .nil pass0 (pa_cons (pv 1) pa_nil)))) pa_nil)))) pss_nil)
      (pss_one (ps_ret (pv 0)))), ?_⟩)
    rintro O H ds d σ Q ⟨x, rfl, ht, rfl⟩ A k
    have fin : ∀ {x : PyData} {σ : L2.St} {H' : Hp}, Same H H' → Ats O [([], H)] σ H' (initG ["thing", "part"] [x]) → (∀ v H2, Same H H2 → Da (cut O H2) v x → Q v H2) → tRet (tVar 0) { nx := fun _ H' => Q .non H', rt := Q } σ H' := fun e A k =>
      s_ret (ee_var rfl) A fun v H2 e2 h2 => k v H2 (e.trans e2) h2
    have tup : ∀ {y : PyData} {ds : List PyData} {σ : L2.St} {H' : Hp} {wi : TI}, ds.length ≤ 1000 → (∀ d ∈ ds, tree n d) → EI wi (initG ["thing", "part"] [y]) (ds.map id) → Same H H' → Ats O [([], H)] σ H' (initG ["thing", "part"] [y]) → (∀ v H2, Same H H2 → Da (cut O H2) v (.tuple (ds.map (tupD n))) → Q v H2) →
        tRet (tCB (fun xs H Q => ∃ p ys, xs = [.ref p] ∧ ((SqL K H p ys ∧ ∀ l, H l = none → Q (.ref l) (upd H l (.tup ys))) ∨ (SqT K H p ys ∧ Q (.ref p) H))) (tCons (tLc wi (gName 1) tYes (tCall (FD (R_tuple_of n)) [] E (tCons (tVar 1) tNil)) [1]) tNil)) { nx := fun _ H' => Q .non H', rt := Q } σ H' := fun hl hd hi e A k => by
      refine s_ret (ee_cb cd_tupL (ea_cons (ee_lcY _ id (tupD n) (fun x => [.dat _, .dat x]) hi (by omega) (fun x hx => gt_name (by decide)) (fun x hx => ee_call (FD.pd ⟨x, rfl, hd x hx, rfl⟩) (ea_cons (ee_var rfl) ea_nil))) ea_nil)) A fun v H2 e2 h2 => k v H2 (e.trans e2) h2
    refine s_seq ?_
    cases x with
    | none => exact s_if (et_B (ee_isi2 (b1 := false) (b2 := false) (ee_var rfl) kb_NoneType_list kb_NoneType_tuple)) A (fun h => nomatch h) fun _ H' e A' => s_next (fin e A' k)
    | bool b => exact s_if (et_B (ee_isi2 (b1 := false) (b2 := false) (ee_var rfl) kb_bool_list kb_bool_tuple)) A (fun h => nomatch h) fun _ H' e A' => s_next (fin e A' k)
    | int b => exact s_if (et_B (ee_isi2 (b1 := false) (b2 := false) (ee_var rfl) kb_int_list kb_int_tuple)) A (fun h => nomatch h) fun _ H' e A' => s_next (fin e A' k)
    | str b => exact s_if (et_B (ee_isi2 (b1 := false) (b2 := false) (ee_var rfl) kb_str_list kb_str_tuple)) A (fun h => nomatch h) fun _ H' e A' => s_next (fin e A' k)
    | dict b => exact ht.elim
    | list ds =>
      refine s_if (et_B (ee_isi2 (b1 := true) (b2 := false) (ee_var rfl) kb_list_list kb_list_tuple)) A (fun _ H' e A' => ?_) (fun h => nomatch h)
      exact tup ht.1 ht.2 (EI.l (ei_list (by rw [List.map_id]; exact ee_var rfl))) e A' k
    | tuple ds =>
      refine s_if (et_B (ee_isi2 (b1 := false) (b2 := true) (ee_var rfl) kb_tuple_list kb_tuple_tuple)) A (fun _ H' e A' => ?_) (fun h => nomatch h)
      exact tup ht.1 ht.2 (EI.r (ei_tup (by rw [List.map_id]; exact ee_var rfl))) e A' k
end
end Nx
set_option maxHeartbeats 4000000
/-! the program's defs, 2 -/
namespace Nx
open PySem PySem.Spec PyProof.Rows L2
/-! ### skips -/
theorem skip_step {b : Bool} {N : Nm} {j : Nat} (h : j < N.length) (hs : side N j = b) : skip b N j = skip b N (j + 1) := by
  unfold skip
  rw [side_drop h, List.takeWhile_cons]
  simp only [hs, beq_self_eq_true, if_true, List.length_cons]
  omega
theorem skip_stop {b : Bool} {N : Nm} {j : Nat} (h : j < N.length) (hs : side N j ≠ b) : skip b N j = j := by
  unfold skip
  rw [side_drop h, List.takeWhile_cons]
  have : (side N j == b) = false := by
    cases h1 : side N j <;> cases b <;> simp_all
  simp [this]
theorem skip_len {b : Bool} {N : Nm} : skip b N N.length = N.length := by
  unfold skip
  rw [List.drop_length]
  rfl
theorem skip_over {b : Bool} {N : Nm} {j : Nat} (h : j ≤ N.length) (hs : (decide (j < N.length) && (side N j == b)) = false) : skip b N j = j := by
  by_cases c : j < N.length
  · refine skip_stop c fun e => ?_
    rw [decide_eq_true c, e] at hs
    simp at hs
  · rw [show j = N.length by omega]; exact skip_len
/-! ### readings of a naming, a row, an entry -/
section
variable {Γ : List Slv} {tn tj te tx : TE} {ta : TA} {K : PySem.W.Frag} {N : Nm} {j : Nat} {r : Rw}
theorem nm_ix (h : j < N.length) : (N.map ePr)[j]? = some (ePr (N.getD j (false, []))) := by
  rw [List.getElem?_map, List.getD_eq_getElem?_getD, List.getElem?_eq_getElem h]
  rfl
theorem ee_side (hN : EE tn Γ (eNm N)) (hj : EE tj Γ (.int (j : Int))) (h : j < N.length) : EE (tOp (rIx K) (tOp (rIx K) tn tj) (tC (.int 0))) Γ (eSide (side N j)) :=
  ee_op (od_ix_t (j := 0) rfl) (ee_op (od_ix_t (nm_ix h)) hN hj) (ee_int 0)
theorem ee_lets (hN : EE tn Γ (eNm N)) (hj : EE tj Γ (.int (j : Int))) (h : j < N.length) : EE (tOp (rIx K) (tOp (rIx K) tn tj) (tC (.int 1))) Γ (.tuple ((lets N j).map .int)) :=
  ee_op (od_ix_t (j := 1) rfl) (ee_op (od_ix_t (nm_ix h)) hN hj) (ee_int 1)
theorem side_last (b : Bool) : decide ((if b then "next" else "last" : Str) = "last") = !b := by cases b <;> decide
theorem side_next (b : Bool) : decide ((if b then "next" else "last" : Str) = "next") = b := by cases b <;> decide
theorem et_last {b : Bool} (h : EE te Γ (eSide b)) : ET (tTest (tOp rEq te (tC (.str "last")))) Γ (!b) := by
  have := et_test (ee_op (od_eqS _ _) h (ee_str "last"))
  rw [side_last] at this
  exact this
theorem et_next {b : Bool} (h : EE te Γ (eSide b)) : ET (tTest (tOp rEq te (tC (.str "next")))) Γ b := by
  have := et_test (ee_op (od_eqS _ _) h (ee_str "next"))
  rw [side_next] at this
  exact this
theorem ee_lenT {ds : List PyData} (h : EE te Γ (.tuple ds)) : EE (tCB (fun xs H Q => ∃ p ys, xs = [.ref p] ∧ (SqL K H p ys ∨ SqT K H p ys) ∧ Q (.int ys.length) H) (tCons te tNil)) Γ (.int (ds.length : Nat)) := ee_cb cd_lenT (ea_cons h ea_nil)
theorem ee_lenL {ds : List PyData} (h : EE te Γ (.list ds)) : EE (tCB (fun xs H Q => ∃ p ys, xs = [.ref p] ∧ (SqL K H p ys ∨ SqT K H p ys) ∧ Q (.int ys.length) H) (tCons te tNil)) Γ (.int (ds.length : Nat)) := ee_cb cd_lenL (ea_cons h ea_nil)
theorem ee_lenN (h : EE te Γ (eNm N)) : EE (tCB (fun xs H Q => ∃ p ys, xs = [.ref p] ∧ (SqL K H p ys ∨ SqT K H p ys) ∧ Q (.int ys.length) H) (tCons te tNil)) Γ (.int (N.length : Nat)) := by
  have := ee_lenT (K := K) h
  rw [List.length_map] at this
  exact this
theorem ee_lenX {w : Tx} (h : EE te Γ (eTx w)) : EE (tCB (fun xs H Q => ∃ p ys, xs = [.ref p] ∧ (SqL K H p ys ∨ SqT K H p ys) ∧ Q (.int ys.length) H) (tCons te tNil)) Γ (.int (w.length : Nat)) := by
  have := ee_lenT (K := K) h
  rw [List.length_map] at this
  exact this
theorem et_ltN {a b : Nat} (h : EE te Γ (.int (a : Int))) (h2 : EE tx Γ (.int (b : Int))) : ET (tTest (tOp (rI0 fun i j => .bl (decide (i < j))) te tx)) Γ (decide (a < b)) := by
  have := et_test (ee_op (od_lt (a : Int) (b : Int)) h h2)
  rw [show decide ((a : Int) < (b : Int)) = decide (a < b) by simp] at this
  exact this
theorem et_gtN {a b : Nat} (h : EE te Γ (.int (a : Int))) (h2 : EE tx Γ (.int (b : Int))) : ET (tTest (tOp (rI0 fun i j => .bl (decide (j < i))) te tx)) Γ (decide (b < a)) := by
  have := et_test (ee_op (od_gt (a : Int) (b : Int)) h h2)
  rw [show decide ((b : Int) < (a : Int)) = decide (b < a) by simp] at this
  exact this
theorem et_eqN {a b : Nat} (h : EE te Γ (.int (a : Int))) (h2 : EE tx Γ (.int (b : Int))) : ET (tTest (tOp rEq te tx)) Γ (decide (a = b)) := by
  have := et_test (ee_op (od_eqI (a : Int) (b : Int)) h h2)
  rw [show decide ((a : Int) = (b : Int)) = decide (a = b) by simp [Int.natCast_inj]] at this
  exact this
theorem ee_succ {a : Nat} (h : EE te Γ (.int (a : Int))) : EE (tOp (rAddX K) te (tC (.int 1))) Γ (.int ((a + 1 : Nat) : Int)) := ee_op (od_addI _ _) h (ee_int 1)
theorem ee_pred {a : Nat} (h1 : 1 ≤ a) (h : EE te Γ (.int (a : Int))) : EE (tOp (rI0 fun i j => .int (i - j)) te (tC (.int 1))) Γ (.int ((a - 1 : Nat) : Int)) := by
  rw [show ((a - 1 : Nat) : Int) = (a : Int) - 1 by omega]
  exact ee_op (od_sub _ _) h (ee_int 1)
theorem tx_ix {w : Tx} {p : Nat} (h : p < w.length) : (w.map PyData.int)[p]? = some (.int (w.getD p 0)) := by
  rw [List.getElem?_map, List.getD_eq_getElem?_getD, List.getElem?_eq_getElem h]
  rfl
end
section
variable {P : Program} {w : World} {K : PySem.W.Frag} {mg : Str → Option Value} {base : Heap}
/-! ### sure_place -/
def R_sure_place (ds : List PyData) (d : PyData) : Prop := ∃ (w : Tx) (p : Nat), ds = [eTx w, .int (p : Int)] ∧ p ≤ w.length + 1 ∧ d = .none
theorem ok_sure_place {f : Addr} {fd : FuncData} (B : Bl mg) {f_is_number : Addr} {fd_is_number : FuncData} (C_is_number : Cl K mg "is_number" f_is_number fd_is_number ["thing"]) (G_is_number : FnOk P w K mg base CX0 1 f_is_number fd_is_number ["thing"] (FD R_is_number)) (F : Fun K "sure_place" "sure_place" s_sure_place f fd) : FnOk P w K mg base CX0 2 f fd ["text", "place"] (FD R_sure_place) := by
  refine ok_fd F sc_sure_place (fun ds d ⟨w, p, h, _⟩ => by rw [h]; rfl) (fun cdv A outer s H E hr => ⟨_, (pss_one (ps_if (PW.pt (pw_or (pt_not (pt_val (pe_call G_is_number (hr.mono (by first | decide | exact Nat.le_refl _ | omega)) (by rfl) C_is_number.g C_is_number.k C_is_number.b .nil pass0 (pa_cons (pv 1) pa_nil)))) (pw_or1 (pt_not (pt_chain op_le op_le pe_int (pv 1) (pe_op (op_addK (K := K) rfl) (pe_callB (len_K (K := K) rfl) (by rfl) B.len PySem.boot_len (pa_cons (pv 0) pa_nil)) pe_int)))))) (pss_one ps_never) pss_nil)), ?_⟩)
  rintro O H ds d σ Q ⟨w, p, rfl, hp, rfl⟩ A k
  refine s_if (b := false) (et_is (et_or (et_not (et_B (ee_call (FD.pd ⟨(p : Int), rfl, rfl⟩) (ea_cons (ee_var rfl) ea_nil)))) (fun _ => et_not (et_test (ee_chain (b := decide ((0 : Int) ≤ p)) (c := decide ((p : Int) ≤ ((w.length + 1 : Nat) : Int))) (ee_int 0) (ee_var rfl) (ee_succ (ee_lenX (ee_var rfl))) (od_le _ _) (fun _ => od_le _ _))))) ?_) A (fun h => nomatch h) (fun _ H' e A' => k _ _ e .non)
  rw [decide_eq_true (by omega), decide_eq_true (by omega)]
  rfl
/-! ### stands_at -/
def R_stands_at (ds : List PyData) (d : PyData) : Prop := ∃ (w : Tx) (p : Nat), ds = [eTx w, .int (p : Int)] ∧ p ≤ w.length + 1 ∧ d = eStand (stand w p)
theorem ok_stands_at {f : Addr} {fd : FuncData} (B : Bl mg) {f_sure_place : Addr} {fd_sure_place : FuncData} (C_sure_place : Cl K mg "sure_place" f_sure_place fd_sure_place ["text", "place"]) (G_sure_place : FnOk P w K mg base CX0 2 f_sure_place fd_sure_place ["text", "place"] (FD R_sure_place)) (F : Fun K "stands_at" "stands_at" s_stands_at f fd) : FnOk P w K mg base CX0 3 f fd ["text", "place"] (FD R_stands_at) := by
  refine ok_fd F sc_stands_at (fun ds d ⟨w, p, h, _⟩ => by rw [h]; rfl) (fun cdv A outer s H E hr => ⟨_, (pss_cons (ps_expr (pe_call G_sure_place (hr.mono (by first | decide | exact Nat.le_refl _ | omega)) (by rfl) C_sure_place.g C_sure_place.k C_sure_place.b .nil pass0 (pa_cons (pv 0) (pa_cons (pv 1) pa_nil))))
      (pss_cons (ps_if (pt_cmpR op_eq (pv 1) pe_int (nomark _)) (pss_one (ps_ret pe_str)) pss_nil)
      (pss_one (ps_ret (pe_ifExp (pt_cmpR op_gt (pv 1) (pe_callB (len_K (K := K) rfl) (by rfl) B.len PySem.boot_len (pa_cons (pv 0) pa_nil)) (nomark _)) pe_str (pe_ix (ix_seqK (K := K) rfl) (pv 0) (pe_op op_sub (pv 1) pe_int) (fun _ _ => rfl))))))), ?_⟩)
  rintro O H ds d σ Q ⟨w, p, rfl, hp, rfl⟩ A k
  refine s_seq (s_drop (ee_call (FD.pd ⟨w, p, rfl, hp, rfl⟩) (ea_cons (ee_var rfl) (ea_cons (ee_var rfl) ea_nil))) A fun H1 A1 => ?_)
  refine s_seq (s_if (b := decide (p = 0)) (et_eqN (ee_var rfl) (ee_int _)) A1 (fun h H2 e2 A2 => ?_) (fun h H2 e2 A2 => ?_))
  · have hp0 : p = 0 := of_decide_eq_true h
    subst hp0
    exact s_retQ (ee_str "front") A2 (by simp) k
  · have hp0 : ¬ p = 0 := of_decide_eq_false h
    refine s_next (s_retQ (ee_if (b := decide (w.length < p)) (et_gtN (ee_var rfl) (ee_lenX (ee_var rfl))) (fun h => ?_) (fun h => ?_)) A2 (by simp) k)
    · unfold stand
      rw [if_neg hp0, if_pos (of_decide_eq_true h)]
      exact ee_str "back"
    · have hl := of_decide_eq_false h
      unfold stand
      rw [if_neg hp0, if_neg hl]
      exact ee_op (od_ix_t (tx_ix (by omega))) (ee_var rfl) (ee_pred (by omega) (ee_var rfl))
/-! ### gone_on -/
def R_gone_on (ds : List PyData) (d : PyData) : Prop := ∃ (N : Nm) (i : Nat), ds = [eNm N, .int (i : Int)] ∧ i < N.length ∧ d = eEn (goneOn N i)
theorem ok_gone_on {f : Addr} {fd : FuncData} (B : Bl mg) (F : Fun K "gone_on" "gone_on" s_gone_on f fd) : FnOk P w K mg base CX0 1 f fd ["naming", "number"] (FD R_gone_on) := by
  refine ok_fd F sc_gone_on (fun ds d ⟨w, p, h, _⟩ => by rw [h]; rfl) (fun cdv A outer s H E hr => ⟨_, (pss_cons (ps_set (i := 2) sc_gone_on.nd rfl (.inl rfl) (pe_op (op_addK (K := K) rfl) (pv 1) pe_int))
      (pss_cons (ps_while PassesOwn.never (PW.pt (pw_and (pt_cmpR op_lt (pv 2) (pe_callB (len_K (K := K) rfl) (by rfl) B.len PySem.boot_len (pa_cons (pv 0) pa_nil)) (nomark _)) (pw_and1 (pt_cmpR op_eq (pe_ix (ix_seqK (K := K) rfl) (pe_ix (ix_seqK (K := K) rfl) (pv 0) (pv 2) (fun _ _ => rfl)) pe_int (fun _ _ => rfl)) pe_str (nomark _))))) (pss_one (ps_set (i := 2) sc_gone_on.nd rfl (.inl rfl) (pe_op (op_addK (K := K) rfl) (pv 2) pe_int))))
      (pss_one (ps_ret (pe_ifExp (pt_cmpR op_eq (pv 2) (pe_callB (len_K (K := K) rfl) (by rfl) B.len PySem.boot_len (pa_cons (pv 0) pa_nil)) (nomark _)) (pe_tup (pa_cons pe_str (pa_cons pe_int pa_nil))) (pe_tup (pa_cons pe_str (pa_cons (pv 2) pa_nil)))))))), ?_⟩)
  rintro O H ds d σ Q ⟨N, i, rfl, hi, rfl⟩ A k
  refine s_seq (s_set (ee_succ (ee_var rfl)) A fun σ1 H1 A1 => ?_)
  refine s_seq (s_while (fun j : Nat => [.dat (eNm N), .dat (.int (i : Int)), .dat (.int (j : Int))]) (fun j => decide (j < N.length) && !side N j) (fun j => N.length - j) (fun j => i + 1 ≤ j ∧ j ≤ N.length ∧ skip false N j = skip false N (i + 1)) (i + 1) ⟨Nat.le_refl _, hi, rfl⟩ A1 ?_ ?_ ?_)
  · intro j ⟨h1, h2, h3⟩
    exact et_and (et_ltN (ee_var rfl) (ee_lenN (ee_var rfl))) (fun h => et_last (ee_side (ee_var rfl) (ee_var rfl) (of_decide_eq_true h)))
  · intro j σ2 H2 ⟨h1, h2, h3⟩ hb A2
    rw [Bool.and_eq_true] at hb
    have hj := of_decide_eq_true hb.1
    have hs : side N j = false := by cases h : side N j <;> simp_all
    refine s_set (ee_succ (ee_var rfl)) A2 fun σ3 H3 A3 => ⟨j + 1, ⟨by omega, by omega, ?_⟩, by omega, A3⟩
    rw [← skip_step hj hs, h3]
  · intro j σ2 H2 ⟨h1, h2, h3⟩ hb A2
    have e : skip false N j = j := skip_over h2 (by have hb' : (decide (j < N.length) && !side N j) = false := hb; revert hb'; cases side N j <;> cases decide (j < N.length) <;> simp)
    rw [e] at h3
    refine s_retQ (ee_if (b := decide (j = N.length)) (et_eqN (ee_var rfl) (ee_lenN (ee_var rfl))) (fun h => ?_) (fun h => ?_)) A2 (by simp) k
    · unfold goneOn
      rw [← h3, if_pos (of_decide_eq_true h)]
      exact ee_tup (ea_cons (ee_str "at") (ea_cons (ee_int 0) ea_nil)) (by decide)
    · unfold goneOn
      rw [← h3, if_neg (of_decide_eq_false h)]
      exact ee_tup (ea_cons (ee_str "on") (ea_cons (ee_var rfl) ea_nil)) (by show 2 ≤ 1000; decide)
/-! ### begun -/
theorem numD_range {α : Type} (e : α → PyData) (a0 : α) (l : List α) : numD (l.map e) = (List.range l.length).map fun i => pairD (.int (i : Nat)) (e (l.getD i a0)) := by
  refine List.ext_getElem? fun i => ?_
  unfold numD
  rw [List.getElem?_mapIdx, List.getElem?_map, List.getElem?_map]
  by_cases h : i < l.length
  · have hd : l.getD i a0 = l[i] := by rw [List.getD_eq_getElem?_getD, List.getElem?_eq_getElem h]; rfl
    rw [List.getElem?_eq_getElem h, List.getElem?_range h]
    show some (pairD (.int (i : Nat)) (e l[i])) = some (pairD (.int (i : Nat)) (e (l.getD i a0)))
    rw [hd]
  · rw [List.getElem?_eq_none (by omega), List.getElem?_eq_none (by rw [List.length_range]; omega)]
    rfl
def R_begun (ds : List PyData) (d : PyData) : Prop := ∃ N : Nm, ds = [eNm N] ∧ N ≠ [] ∧ N.length ≤ 10 ∧ d = eRw (begun N)
theorem ok_begun {f : Addr} {fd : FuncData} (B : Bl mg) {f_gone_on : Addr} {fd_gone_on : FuncData} (C_gone_on : Cl K mg "gone_on" f_gone_on fd_gone_on ["naming", "number"]) (G_gone_on : FnOk P w K mg base CX0 1 f_gone_on fd_gone_on ["naming", "number"] (FD R_gone_on)) (F : Fun K "begun" "begun" s_begun f fd) : FnOk P w K mg base CX0 2 f fd ["naming"] (FD R_begun) := by
  refine ok_fd F sc_begun (fun ds d ⟨w, h, _⟩ => by rw [h]; rfl) (fun cdv A outer s H E hr => ⟨_, (pss_cons (ps_setLc (i := 1) (own := [("number", 2), ("own", 3)]) rfl sc_begun.nd rfl rfl (sw_true rfl rfl rfl (by decide +kernel)) (pi_enK (K := K) rfl (by rfl) B.enumerate (pa_cons (pv 0) pa_nil)) (blkOk_by (N := ["naming", "row", "number", "own"]) (sc := (defScope s_begun)) (by decide +kernel)) (fun _ _ _ _ _ => (pg_tupK (K := K) (n := 2) rfl rfl (pgs_cons (pg_name (i := 2) sc_begun.nd rfl (.inl rfl)) (pgs_cons (pg_name (i := 3) sc_begun.nd rfl (.inl rfl)) pgs_nil)))) (fun _ _ _ _ _ => pts_nil) (fun _ _ _ _ _ => (pe_ifExp (pt_cmpR op_eq (pe_ix (ix_seqK (K := K) rfl) (pv 3) pe_int (fun _ _ => rfl)) pe_str (nomark _)) (pe_call G_gone_on (hr.mono (by first | decide | exact Nat.le_refl _ | omega)) (by rfl) C_gone_on.g C_gone_on.k C_gone_on.b .nil pass0 (pa_cons (pv 0) (pa_cons (pv 2) pa_nil))) pe_non)))
      (pss_one (ps_ret (pe_tup (pa_starK (K := K) rfl (pv 1) (pa_cons (pe_ifExp (pt_cmpR op_eq (pe_ix (ix_seqK (K := K) rfl) (pe_ix (ix_seqK (K := K) rfl) (pv 0) pe_int (fun _ _ => rfl)) pe_int (fun _ _ => rfl)) pe_str (nomark _)) (pe_tup (pa_cons pe_str (pa_cons pe_int pa_nil))) pe_non) pa_nil)))))), ?_⟩)
  rintro O H ds d σ Q ⟨N, rfl, h0, hN, rfl⟩ A k
  have hp : 0 < N.length := List.length_pos_iff.mpr h0
  refine s_seq (s_set (i := 1) (ee_lcY (List.range N.length) (fun i => pairD (.int (i : Nat)) (ePr (N.getD i (false, [])))) (fun i => eEnt (if side N i then none else some (goneOn N i))) (fun i => [.dat (eNm N), .unk, .dat (.int (i : Int)), .dat (ePr (N.getD i (false, [])))]) (by rw [← numD_range]; exact ei_enT (ea_cons (ee_var rfl) ea_nil)) (by rw [List.length_range]; omega)
    (fun i hi => gt_tup (gts_cons (gt_name (by decide)) (gts_cons (gt_name (by decide)) gts_nil)) rfl) (fun i hi => ?_)) A fun σ1 H1 A1 => ?_)
  · have hi' := List.mem_range.mp hi
    refine ee_if (b := !side N i) (et_last (ee_op (od_ix_t (j := 0) rfl) (ee_var rfl) (ee_int 0))) (fun h => ?_) (fun h => ?_)
    · have hs : side N i = false := by cases h : side N i <;> simp_all
      rw [hs]
      exact ee_call (FD.pd ⟨N, i, rfl, hi', rfl⟩) (ea_cons (ee_var rfl) (ea_cons (ee_var rfl) ea_nil))
    · have hs : side N i = true := by cases h : side N i <;> simp_all
      rw [hs]
      exact ee_non
  · refine s_retQ (ee_sc (ee_tup (ea_starL (ee_var rfl) (ea_cons (d := eEnt (if side N 0 then some (false, 0) else none)) (ee_if (b := side N 0) (et_next (ee_side (j := 0) (ee_var rfl) (ee_int 0) hp)) (fun h => ?_) (fun h => ?_)) ea_nil)) ?_) ?_) A1 (by simp) k
    · rw [h]
      exact ee_tup (ea_cons (ee_str "on") (ea_cons (ee_int 0) ea_nil)) (by decide)
    · rw [h]
      exact ee_non
    · rw [List.length_append, List.length_map, List.length_range, List.length_singleton]; omega
    · unfold eRw begun
      rw [List.map_append, List.map_map, List.map_singleton]
      rfl
end
end Nx
set_option maxHeartbeats 4000000
/-! the program's defs, 3: rows that grow -/
namespace Nx
open PySem PySem.Spec PyProof.Rows L2
structure RowOk (N : Nm) (r : Rw) : Prop where
  len : r.length = N.length + 1
  on : ∀ i k, r.getD i none = some (false, k) → k < N.length ∧ side N k = true ∧ (i < N.length → i < k)
  non : ∀ i, i < N.length → side N i = false → r.getD i none ≠ none
  top : side N 0 = true → r.getD N.length none ≠ none
theorem rowOk_of {N : Nm} (hN : N ≠ []) (w : Tx) : RowOk N (rowOf N w) := by
  rw [rowOf_sem N hN]
  have hg : ∀ i, i ≤ N.length → (sem N w).getD i none = semAt N w i := fun i h => getD_sem h
  have hl : (sem N w).length = N.length + 1 := by unfold sem; rw [List.length_map, List.length_range]
  refine ⟨hl, fun i k h => ?_, fun i hi hs => ?_, fun hs => ?_⟩
  · by_cases c : i ≤ N.length
    · rw [hg i c] at h; exact semAt_on h
    · rw [List.getD_eq_getElem?_getD, List.getElem?_eq_none (by omega)] at h
      cases h
  · rw [hg i (by omega)]
    unfold semAt
    rw [if_pos hi, hs]
    simp
  · rw [hg _ (Nat.le_refl _)]
    unfold semAt
    rw [if_neg (by omega), if_pos hs]
    simp
section
variable {Γ : List Slv} {tn tj te tx : TE} {ta : TA} {K : PySem.W.Frag} {N : Nm} {j : Nat} {r : Rw} {e : En}
theorem row_ix (h : j < r.length) : (r.map eEnt)[j]? = some (eEnt (r.getD j none)) := by
  have hd : r.getD j none = r[j] := by rw [List.getD_eq_getElem?_getD, List.getElem?_eq_getElem h]; rfl
  rw [List.getElem?_map, List.getElem?_eq_getElem h, hd]
  rfl
theorem ee_entry (hr : EE te Γ (eRw r)) (hj : EE tj Γ (.int (j : Int))) (h : j < r.length) : EE (tOp (rIx K) te tj) Γ (eEnt (r.getD j none)) := ee_op (od_ix_t (row_ix h)) hr hj
theorem ee_kind (h : EE te Γ (eEn e)) : EE (tOp (rIx K) te (tC (.int 0))) Γ (.str (if e.1 then "at" else "on")) := ee_op (od_ix_t (j := 0) rfl) h (ee_int 0)
theorem ee_num (h : EE te Γ (eEn e)) : EE (tOp (rIx K) te (tC (.int 1))) Γ (.int (e.2 : Nat)) := ee_op (od_ix_t (j := 1) rfl) h (ee_int 1)
theorem kind_on (b : Bool) : decide ((if b then "at" else "on" : Str) = "on") = !b := by cases b <;> decide
theorem kind_at (b : Bool) : decide ((if b then "at" else "on" : Str) = "at") = b := by cases b <;> decide
theorem et_on (h : EE te Γ (eEn e)) : ET (tTest (tOp rEq (tOp (rIx K) te (tC (.int 0))) (tC (.str "on")))) Γ (!e.1) := by
  have := et_test (ee_op (od_eqS _ _) (ee_kind (K := K) h) (ee_str "on"))
  rw [kind_on] at this
  exact this
theorem et_at (h : EE te Γ (eEn e)) : ET (tTest (tOp rEq (tOp (rIx K) te (tC (.int 0))) (tC (.str "at")))) Γ e.1 := by
  have := et_test (ee_op (od_eqS _ _) (ee_kind (K := K) h) (ee_str "at"))
  rw [kind_at] at this
  exact this
theorem ee_at {p : Nat} (h : EE te Γ (.int (p : Int))) : EE (tTup (tCons (tC (.str "at")) (tCons te tNil))) Γ (eEn (true, p)) := ee_tup (ea_cons (ee_str "at") (ea_cons h ea_nil)) (by show 2 ≤ 1000; decide)
theorem ee_on {p : Nat} (h : EE te Γ (.int (p : Int))) : EE (tTup (tCons (tC (.str "on")) (tCons te tNil))) Γ (eEn (false, p)) := ee_tup (ea_cons (ee_str "on") (ea_cons h ea_nil)) (by show 2 ≤ 1000; decide)
theorem et_in {a : Int} (hx : EE tx Γ (.int a)) (hN : EE tn Γ (eNm N)) (hj : EE tj Γ (.int (j : Int))) (h : j < N.length) : ET (tTest (tOp (rIn K false) tx (tOp (rIx K) (tOp (rIx K) tn tj) (tC (.int 1))))) Γ (decide (a ∈ lets N j)) := et_test (ee_op (od_letter _ _) hx (ee_lets hN hj h))
end
section
variable {P : Program} {w : World} {K : PySem.W.Frag} {mg : Str → Option Value} {base : Heap}
/-! ### with_found, with_last -/
def R_with_found (m : Nat) (ds : List PyData) (d : PyData) : Prop := ∃ (N : Nm) (r : Rw) (a : Int) (p i f : Nat), ds = [eNm N, eRw r, .int a, .int (p : Int), .int (i : Int)] ∧ RowOk N r ∧ i < N.length ∧ N.length ≤ i + m ∧ N.length ≤ i + f ∧ d = eEn (wFound N r a p f i)
def R_with_last (m : Nat) (ds : List PyData) (d : PyData) : Prop := ∃ (N : Nm) (r : Rw) (a : Int) (p f : Nat) (e : En), ds = [eNm N, eRw r, .int a, .int (p : Int), eEn e] ∧ RowOk N r ∧ (∀ k, e = (false, k) → k < N.length ∧ N.length ≤ k + m ∧ N.length ≤ k + f) ∧ d = eEn (wLast N r a p f e)
theorem ok_with_found {f : Addr} {fd : FuncData} {m : Nat} (B : Bl mg) {f_with_last : Addr} {fd_with_last : FuncData} (C_with_last : Cl K mg "with_last" f_with_last fd_with_last ["naming", "row", "letter", "place", "own"]) (G_with_last : FnOk P w K mg base CX0 (2 * m + 1) f_with_last fd_with_last ["naming", "row", "letter", "place", "own"] (FD (R_with_last m))) (F : Fun K "with_found" "with_found" s_with_found f fd) : FnOk P w K mg base CX0 (2 * m + 2) f fd ["naming", "row", "letter", "place", "number"] (FD (R_with_found (m + 1))) := by
  refine ok_fd F sc_with_found (fun ds d ⟨_, _, _, _, _, _, h, _⟩ => by rw [h]; rfl) (fun cdv A outer s H E hr => ⟨_, (pss_cons (ps_set (i := 5) sc_with_found.nd rfl (.inl rfl) (pe_op (op_addK (K := K) rfl) (pv 4) pe_int))
      (pss_cons (ps_if (pt_cmpR op_eq (pv 5) (pe_callB (len_K (K := K) rfl) (by rfl) B.len PySem.boot_len (pa_cons (pv 0) pa_nil)) (nomark _)) (pss_one (ps_ret (pe_tup (pa_cons pe_str (pa_cons (pv 3) pa_nil))))) pss_nil)
      (pss_one (ps_ret (pe_ifExp (pt_cmpR op_eq (pe_ix (ix_seqK (K := K) rfl) (pe_ix (ix_seqK (K := K) rfl) (pv 0) (pv 5) (fun _ _ => rfl)) pe_int (fun _ _ => rfl)) pe_str (nomark _)) (pe_tup (pa_cons pe_str (pa_cons (pv 5) pa_nil))) (pe_call G_with_last (hr.mono (by first | decide | exact Nat.le_refl _ | omega)) (by rfl) C_with_last.g C_with_last.k C_with_last.b .nil pass0 (pa_cons (pv 0) (pa_cons (pv 1) (pa_cons (pv 2) (pa_cons (pv 3) (pa_cons (pe_ix (ix_seqK (K := K) rfl) (pv 1) (pv 5) (fun _ _ => rfl)) pa_nil))))))))))), ?_⟩)
  rintro O H ds d σ Q ⟨N, r, a, p, i, f, rfl, hr, hi, hm, hf, rfl⟩ A k
  obtain ⟨f, rfl⟩ : ∃ g, f = g + 1 := ⟨f - 1, by omega⟩
  refine s_seq (s_set (ee_succ (ee_var rfl)) A fun σ1 H1 A1 => ?_)
  refine s_seq (s_if (et_eqN (ee_var rfl) (ee_lenN (ee_var rfl))) A1 (fun h H2 e2 A2 => ?_) (fun h H2 e2 A2 => ?_))
  · refine s_retQ (ee_sc (ee_at (ee_var rfl)) ?_) A2 (by simp) k
    rw [wFound, if_pos (of_decide_eq_true h)]
  · have hl := of_decide_eq_false h
    refine s_next (s_retQ (ee_if (et_next (ee_side (ee_var rfl) (ee_var rfl) (by omega))) (fun h => ?_) (fun h => ?_)) A2 (by simp) k)
    · rw [wFound, if_neg hl, if_pos h]
      exact ee_on (ee_var rfl)
    · have hn := hr.non (i + 1) (by omega) h
      have hx := ee_entry (K := K) (r := r) (j := i + 1) (Γ := (initG ["naming", "row", "letter", "place", "number", "later"] [eNm N, eRw r, .int a, .int (p : Int), .int (i : Int)]).set 5 (.dat (.int ((i + 1 : Nat) : Int)))) (te := tVar 1) (tj := tVar 5) (ee_var rfl) (ee_var rfl) (by rw [hr.len]; omega)
      cases he : r.getD (i + 1) none with
      | none => exact absurd he hn
      | some e =>
        rw [he] at hx
        have hw : wFound N r a p (f + 1) i = wLast N r a p f e := by
          rw [wFound, if_neg hl, h, he]
          obtain ⟨b, k⟩ := e
          cases b <;> rfl
        rw [hw]
        exact ee_call (FD.pd ⟨N, r, a, p, f, e, rfl, hr, fun k hk => by
          have := hr.on (i + 1) k (by rw [he, hk])
          have := this.2.2 (by omega)
          omega, rfl⟩) (ea_cons (ee_var rfl) (ea_cons (ee_var rfl) (ea_cons (ee_var rfl) (ea_cons (ee_var rfl) (ea_cons hx ea_nil)))))
theorem ok_with_last {f : Addr} {fd : FuncData} {m : Nat} (B : Bl mg) {f_with_found : Addr} {fd_with_found : FuncData} (C_with_found : Cl K mg "with_found" f_with_found fd_with_found ["naming", "row", "letter", "place", "number"]) (G_with_found : FnOk P w K mg base CX0 (2 * m) f_with_found fd_with_found ["naming", "row", "letter", "place", "number"] (FD (R_with_found m))) (F : Fun K "with_last" "with_last" s_with_last f fd) : FnOk P w K mg base CX0 (2 * m + 1) f fd ["naming", "row", "letter", "place", "own"] (FD (R_with_last m)) := by
  refine ok_fd F sc_with_last (fun ds d ⟨_, _, _, _, _, _, h, _⟩ => by rw [h]; rfl) (fun cdv A outer s H E hr => ⟨_, (pss_cons (ps_if (PW.pt (pw_and (pt_cmpR op_eq (pe_ix (ix_seqK (K := K) rfl) (pv 4) pe_int (fun _ _ => rfl)) pe_str (nomark _)) (pw_and1 (pt_cmpR (op_inK (K := K) rfl) (pv 2) (pe_ix (ix_seqK (K := K) rfl) (pe_ix (ix_seqK (K := K) rfl) (pv 0) (pe_ix (ix_seqK (K := K) rfl) (pv 4) pe_int (fun _ _ => rfl)) (fun _ _ => rfl)) pe_int (fun _ _ => rfl)) (by rfl))))) (pss_one (ps_ret (pe_call G_with_found (hr.mono (by first | decide | exact Nat.le_refl _ | omega)) (by rfl) C_with_found.g C_with_found.k C_with_found.b .nil pass0 (pa_cons (pv 0) (pa_cons (pv 1) (pa_cons (pv 2) (pa_cons (pv 3) (pa_cons (pe_ix (ix_seqK (K := K) rfl) (pv 4) pe_int (fun _ _ => rfl)) pa_nil)))))))) pss_nil)
      (pss_one (ps_ret (pv 4)))), ?_⟩)
  rintro O H ds d σ Q ⟨N, r, a, p, f, e, rfl, hr, he, rfl⟩ A k
  obtain ⟨b, q⟩ := e
  have hin : (!b) = true → ET (tTest (tOp (rIn K false) (tVar 2) (tOp (rIx K) (tOp (rIx K) (tVar 0) (tOp (rIx K) (tVar 4) (tC (.int 1)))) (tC (.int 1))))) (initG ["naming", "row", "letter", "place", "own"] [eNm N, eRw r, .int a, .int (p : Int), eEn (b, q)]) (decide (a ∈ lets N q)) := fun h => et_in (ee_var rfl) (ee_var rfl) (ee_num (e := (b, q)) (ee_var rfl)) (he q (by cases b <;> simp_all)).1
  refine s_seq (s_if (et_and (et_on (e := (b, q)) (ee_var rfl)) hin) A (fun h H2 e2 A2 => ?_) (fun h H2 e2 A2 => ?_))
  · rw [Bool.and_eq_true] at h
    have hb : b = false := by cases b <;> simp_all
    subst hb
    have ha := of_decide_eq_true h.2
    have hw : wLast N r a p f (false, q) = wFound N r a p f q := if_pos ha
    rw [hw] at k
    have := he q rfl
    exact s_retQ (ee_call (FD.pd ⟨N, r, a, p, q, f, rfl, hr, this.1, this.2.1, this.2.2, rfl⟩) (ea_cons (ee_var rfl) (ea_cons (ee_var rfl) (ea_cons (ee_var rfl) (ea_cons (ee_var rfl) (ea_cons (ee_num (e := (false, q)) (ee_var rfl)) ea_nil)))))) A2 (by simp) k
  · have hw : wLast N r a p f (b, q) = (b, q) := by
      cases b with
      | true => rfl
      | false =>
        have ha : ¬ a ∈ lets N q := fun z => by simp [z] at h
        exact if_neg ha
    rw [hw] at k
    exact s_next (s_retQ (ee_var rfl) A2 (by simp) k)
theorem ok_withs {f1 f2 : Addr} {fd1 fd2 : FuncData} (B : Bl mg) (C1 : Cl K mg "with_found" f1 fd1 ["naming", "row", "letter", "place", "number"]) (F1 : Fun K "with_found" "with_found" s_with_found f1 fd1)
    (C2 : Cl K mg "with_last" f2 fd2 ["naming", "row", "letter", "place", "own"]) (F2 : Fun K "with_last" "with_last" s_with_last f2 fd2) : ∀ m, FnOk P w K mg base CX0 (2 * m) f1 fd1 ["naming", "row", "letter", "place", "number"] (FD (R_with_found m)) ∧ FnOk P w K mg base CX0 (2 * m + 1) f2 fd2 ["naming", "row", "letter", "place", "own"] (FD (R_with_last m))
  | 0 => by
    have h0 : FnOk P w K mg base CX0 (2 * 0) f1 fd1 ["naming", "row", "letter", "place", "number"] (FD (R_with_found 0)) := by
      refine ⟨fun vs H Q E h => ?_, fun A outer s H args us vs Q E hr hE hb hv h => ?_⟩
      · obtain ⟨O, ds, d, _, ha, ⟨N, r, a, p, i, f, _, _, h1, h2, _⟩, _⟩ := h
        omega
      · obtain ⟨O, ds, d, _, ha, ⟨N, r, a, p, i, f, _, _, h1, h2, _⟩, _⟩ := h
        omega
    exact ⟨h0, ok_with_last B C1 h0 F2⟩
  | m + 1 => by
    have h0 := ok_with_found B C2 (ok_withs B C1 F1 C2 F2 m).2 F1
    exact ⟨h0, ok_with_last B C1 h0 F2⟩
/-! ### grown -/
def R_grown (ds : List PyData) (d : PyData) : Prop := ∃ (N : Nm) (r : Rw) (a : Int) (p : Nat), ds = [eNm N, eRw r, .int a, .int (p : Int)] ∧ RowOk N r ∧ N.length ≤ 10 ∧ d = eRw (grown N r a p)
theorem grown_get {N : Nm} {r : Rw} {a : Int} {p i : Nat} (h : i < r.length) : (grown N r a p)[i]? = some (grow1 N r a p i (r.getD i none)) := by
  have hd : r.getD i none = r[i] := by rw [List.getD_eq_getElem?_getD, List.getElem?_eq_getElem h]; rfl
  unfold grown
  rw [List.getElem?_mapIdx, List.getElem?_eq_getElem h, hd]
  rfl
theorem ok_grown {f : Addr} {fd : FuncData} (B : Bl mg) {f_with_found : Addr} {fd_with_found : FuncData} (C_with_found : Cl K mg "with_found" f_with_found fd_with_found ["naming", "row", "letter", "place", "number"]) (G_with_found : FnOk P w K mg base CX0 20 f_with_found fd_with_found ["naming", "row", "letter", "place", "number"] (FD (R_with_found 10)))
    {f_with_last : Addr} {fd_with_last : FuncData} (C_with_last : Cl K mg "with_last" f_with_last fd_with_last ["naming", "row", "letter", "place", "own"]) (G_with_last : FnOk P w K mg base CX0 21 f_with_last fd_with_last ["naming", "row", "letter", "place", "own"] (FD (R_with_last 10))) (F : Fun K "grown" "grown" s_grown f fd) : FnOk P w K mg base CX0 22 f fd ["naming", "row", "letter", "place"] (FD R_grown) := by
  refine ok_fd F sc_grown (fun ds d ⟨_, _, _, _, h, _⟩ => by rw [h]; rfl) (fun cdv A outer s H E hr => ⟨_, (pss_cons (ps_set (i := 4) sc_grown.nd rfl (.inl rfl) (pe_lst pa_nil))
      (pss_cons (ps_for PassesOwn.never rfl (pi_enK (K := K) rfl (by rfl) B.enumerate (pa_cons (pv 1) pa_nil)) (pg_tupK (K := K) (n := 2) rfl rfl (pgs_cons (pg_name (i := 5) sc_grown.nd rfl (.inl rfl)) (pgs_cons (pg_name (i := 6) sc_grown.nd rfl (.inl rfl)) pgs_nil))) (pss_one (ps_if (pt_cmp (pc_isN (pv 6))) (pss_one (ps_expr (pe_bmK (K := K) rfl PySem.F.plainAttrs_list PySem.F.slot_list_append PySem.F.type_list_append mt_append (pv 4) (pa_cons pe_non pa_nil)))) (pss_one (ps_if (PW.pt (pw_and (pt_cmpR op_lt (pv 5) (pe_callB (len_K (K := K) rfl) (by rfl) B.len PySem.boot_len (pa_cons (pv 0) pa_nil)) (nomark _)) (pw_and1 (pt_cmpR (op_inK (K := K) rfl) (pv 2) (pe_ix (ix_seqK (K := K) rfl) (pe_ix (ix_seqK (K := K) rfl) (pv 0) (pv 5) (fun _ _ => rfl)) pe_int (fun _ _ => rfl)) (by rfl))))) (pss_one (ps_expr (pe_bmK (K := K) rfl PySem.F.plainAttrs_list PySem.F.slot_list_append PySem.F.type_list_append mt_append (pv 4) (pa_cons (pe_call G_with_found (hr.mono (by first | decide | exact Nat.le_refl _ | omega)) (by rfl) C_with_found.g C_with_found.k C_with_found.b .nil pass0 (pa_cons (pv 0) (pa_cons (pv 1) (pa_cons (pv 2) (pa_cons (pv 3) (pa_cons (pv 5) pa_nil)))))) pa_nil)))) (pss_one (ps_expr (pe_bmK (K := K) rfl PySem.F.plainAttrs_list PySem.F.slot_list_append PySem.F.type_list_append mt_append (pv 4) (pa_cons (pe_call G_with_last (hr.mono (by first | decide | exact Nat.le_refl _ | omega)) (by rfl) C_with_last.g C_with_last.k C_with_last.b .nil pass0 (pa_cons (pv 0) (pa_cons (pv 1) (pa_cons (pv 2) (pa_cons (pv 3) (pa_cons (pv 6) pa_nil)))))) pa_nil)))))))))
      (pss_one (ps_ret (pe_callTy (tup_K (K := K) rfl) (by rfl) B.tuple (by decide +kernel) (pa_cons (pv 4) pa_nil)))))), ?_⟩)
  rintro O H ds d σ Q ⟨N, r, a, p, rfl, hr, hN, rfl⟩ A k
  refine s_seq (s_newL A fun o σ1 H1 no fo A1 w1 => ?_)
  have hlen : (numD (r.map eEnt)).length = r.length := by unfold numD; rw [List.length_mapIdx, List.length_map]
  refine s_seq (s_forO (ei_enT (ds := r.map eEnt) (ea_cons (ee_var rfl) ea_nil)) A1 (fun i Γ' H' => (∃ x5 x6, Γ' = [.dat (eNm N), .dat (eRw r), .dat (.int a), .dat (.int (p : Int)), .adr o, x5, x6]) ∧ Ow (o :: O) H' o (((grown N r a p).map eEnt).take i)) (fun i Γ' H2 H3 e h => ⟨h.1, h.2.mono e⟩) ⟨⟨_, _, rfl⟩, by rw [List.take_zero]; exact w1⟩ ?_ ?_)
  · rintro i d Γ' Bs' σ2 H2 hd ⟨⟨x5, x6, rfl⟩, w2⟩ hB hF A2 x hx
    rw [numD_range eEnt none, List.getElem?_map] at hd
    have hi : i < r.length := by
      cases c : (List.range r.length)[i]? with
      | none => rw [c] at hd; cases hd
      | some y => have := (List.getElem?_eq_some_iff.mp c).1; rwa [List.length_range] at this
    rw [List.getElem?_range hi] at hd
    cases hd
    have hG : ((grown N r a p).map eEnt)[i]? = some (eEnt (grow1 N r a p i (r.getD i none))) := by rw [List.getElem?_map, grown_get hi]; rfl
    have hln : (((grown N r a p).map eEnt).take i).length ≤ 4000000 := by
      rw [List.length_take]
      have := hr.len
      omega
    have fo' := hF o List.mem_cons_self fo
    refine g_at (vs := [5, 6]) (gt_tup (gts_cons (gt_name (by decide)) (gts_cons (gt_name (by decide)) gts_nil)) rfl) A2 hx fun σ3 A3 => ?_
    have fin : ∀ {te : TE} {D : L2.Ends} {H3 : Hp}, Same H2 H3 → EE te [.dat (eNm N), .dat (eRw r), .dat (.int a), .dat (.int (p : Int)), .adr o, .dat (.int (i : Nat)), .dat (eEnt (r.getD i none))] (eEnt (grow1 N r a p i (r.getD i none))) → (∀ σ4 H4, (∃ Γ2, ((∃ x5 x6, Γ2 = [.dat (eNm N), .dat (eRw r), .dat (.int a), .dat (.int (p : Int)), .adr o, x5, x6]) ∧ Ow (o :: O) H4 o (((grown N r a p).map eEnt).take (i + 1))) ∧ Ats (o :: O) Bs' σ4 H4 Γ2) → D.nx σ4 H4) →
        tDrop (tBM K "list" rAppend (tVar 4) (tCons te tNil)) D σ3 H3 := fun e3 he kk =>
      s_app (p := o) (i := 4) rfl he (A3.mono e3) List.mem_cons_self fo' (w2.mono e3) hln fun H4 e4 A4 w4 => kk _ _ ⟨_, ⟨⟨_, _, rfl⟩, by rw [take_snoc hG]; exact w4⟩, A4⟩
    cases hr0 : r.getD i none with
    | none =>
      rw [hr0] at fin A3
      refine s_if (b := true) (et_B (ee_isN (d := eEnt none) (ee_var rfl))) A3 (fun _ H3 e3 A4 => fin e3 ee_non fun _ _ h => h) (fun h => nomatch h)
    | some e =>
      rw [hr0] at fin A3
      refine s_if (b := false) (et_B (ee_isN (d := eEn e) (ee_var rfl))) A3 (fun h => nomatch h) (fun _ H3 e3 A4 => ?_)
      refine s_if (b := decide (i < N.length) && decide (a ∈ lets N i)) (et_and (et_ltN (ee_var rfl) (ee_lenN (ee_var rfl))) (fun h => et_in (ee_var rfl) (ee_var rfl) (ee_var rfl) (of_decide_eq_true h))) A4 (fun h H4 e4 A5 => fin (e3.trans e4) ?_ fun _ _ h => h) (fun h H4 e4 A5 => fin (e3.trans e4) ?_ fun _ _ h => h)
      · rw [Bool.and_eq_true, decide_eq_true_eq, decide_eq_true_eq] at h
        rw [grow1, if_pos h]
        exact ee_call (FD.pd ⟨N, r, a, p, i, N.length, rfl, hr, h.1, by omega, by omega, rfl⟩) (ea_cons (ee_var rfl) (ea_cons (ee_var rfl) (ea_cons (ee_var rfl) (ea_cons (ee_var rfl) (ea_cons (ee_var rfl) ea_nil)))))
      · have hn : ¬ (i < N.length ∧ a ∈ lets N i) := fun z => by simp [z.1, z.2] at h
        rw [grow1, if_neg hn]
        exact ee_call (FD.pd ⟨N, r, a, p, N.length, e, rfl, hr, fun k hk => by
          have := hr.on i k (by rw [hr0, hk])
          omega, rfl⟩) (ea_cons (ee_var rfl) (ea_cons (ee_var rfl) (ea_cons (ee_var rfl) (ea_cons (ee_var rfl) (ea_cons (ee_var rfl) ea_nil)))))
  · rintro Γ' σ2 H2 ⟨⟨x5, x6, rfl⟩, w2⟩ A2
    have hf := A2.freeze (i := 4) no rfl w2
    refine s_retQ (ee_sc (ee_cb cd_tupL (ea_cons (ee_var rfl) ea_nil)) ?_) hf (by simp) k
    rw [hlen, List.take_of_length_le (by unfold grown; rw [List.length_map, List.length_mapIdx]; exact Nat.le_refl _)]
    rfl
end
end Nx
set_option maxHeartbeats 4000000
/-! the program's defs, 4: what a row ends in -/
namespace Nx
open PySem PySem.Spec PyProof.Rows L2
section
variable {P : Program} {w : World} {K : PySem.W.Frag} {mg : Str → Option Value} {base : Heap}
def R_ended (ds : List PyData) (d : PyData) : Prop := ∃ (N : Nm) (r : Rw) (n : Nat), ds = [eNm N, eRw r, .int (n : Int)] ∧ N ≠ [] ∧ RowOk N r ∧ d = .int (ended N r n : Nat)
theorem row_last {N : Nm} {r : Rw} (h : RowOk N r) : (r.map eEnt).getLast? = some (eEnt (r.getD N.length none)) := by
  rw [List.getLast?_eq_getElem?, List.length_map, h.len, Nat.add_sub_cancel]
  exact row_ix (by rw [h.len]; omega)
theorem ok_ended {f : Addr} {fd : FuncData} (B : Bl mg) (F : Fun K "ended" "ended" s_ended f fd) : FnOk P w K mg base CX0 1 f fd ["naming", "row", "size"] (FD R_ended) := by
  refine ok_fd F sc_ended (fun ds d ⟨_, _, _, h, _⟩ => by rw [h]; rfl) (fun cdv A outer s H E hr => ⟨_, (pss_cons (ps_set (i := 3) sc_ended.nd rfl (.inl rfl) (pe_ifExp (pt_cmp (pc_notN (pe_ix (ix_seqK (K := K) rfl) (pv 1) (pe_un un_neg pe_int) (fun _ _ => rfl)))) (pe_ix (ix_seqK (K := K) rfl) (pv 1) (pe_un un_neg pe_int) (fun _ _ => rfl)) (pe_ix (ix_seqK (K := K) rfl) (pv 1) pe_int (fun _ _ => rfl))))
      (pss_cons (ps_while PassesOwn.never (pt_cmpR op_eq (pe_ix (ix_seqK (K := K) rfl) (pv 3) pe_int (fun _ _ => rfl)) pe_str (nomark _)) (pss_cons (ps_set (i := 4) sc_ended.nd rfl (.inl rfl) (pe_op (op_addK (K := K) rfl) (pe_ix (ix_seqK (K := K) rfl) (pv 3) pe_int (fun _ _ => rfl)) pe_int))
      (pss_cons (ps_while PassesOwn.never (PW.pt (pw_and (pt_cmpR op_lt (pv 4) (pe_callB (len_K (K := K) rfl) (by rfl) B.len PySem.boot_len (pa_cons (pv 0) pa_nil)) (nomark _)) (pw_and1 (pt_cmpR op_eq (pe_ix (ix_seqK (K := K) rfl) (pe_ix (ix_seqK (K := K) rfl) (pv 0) (pv 4) (fun _ _ => rfl)) pe_int (fun _ _ => rfl)) pe_str (nomark _))))) (pss_one (ps_set (i := 4) sc_ended.nd rfl (.inl rfl) (pe_op (op_addK (K := K) rfl) (pv 4) pe_int))))
      (pss_cons (ps_if (pt_cmpR op_eq (pv 4) (pe_callB (len_K (K := K) rfl) (by rfl) B.len PySem.boot_len (pa_cons (pv 0) pa_nil)) (nomark _)) (pss_one (ps_ret (pe_op (op_addK (K := K) rfl) (pv 2) pe_int))) pss_nil)
      (pss_one (ps_set (i := 3) sc_ended.nd rfl (.inl rfl) (pe_ix (ix_seqK (K := K) rfl) (pv 1) (pv 4) (fun _ _ => rfl))))))))
      (pss_one (ps_ret (pe_ix (ix_seqK (K := K) rfl) (pv 3) pe_int (fun _ _ => rfl)))))), ?_⟩)
  rintro O H ds d σ Q ⟨N, r, n, rfl, h0, hr, rfl⟩ A k
  have hp : 0 < N.length := List.length_pos_iff.mpr h0
  have hlast : ∃ e, r.getD N.length none = some e ∨ (r.getD N.length none = none ∧ r.getD 0 none = some e) := by
    cases h1 : r.getD N.length none with
    | some e => exact ⟨e, .inl rfl⟩
    | none =>
      have hs : side N 0 = false := by
        cases h2 : side N 0 with
        | false => rfl
        | true => exact absurd h1 (hr.top h2)
      cases h3 : r.getD 0 none with
      | some e => exact ⟨e, .inr ⟨rfl, rfl⟩⟩
      | none => exact absurd h3 (hr.non 0 hp hs)
  have hlastE : ∃ e, lastE N r = e ∧ (r.getD N.length none = some e ∨ (r.getD N.length none = none ∧ r.getD 0 none = some e)) := by
    obtain ⟨e, h | ⟨h1, h2⟩⟩ := hlast
    · exact ⟨e, by unfold lastE; rw [h], .inl h⟩
    · exact ⟨e, by unfold lastE; rw [h1, h2]; rfl, .inr ⟨h1, h2⟩⟩
  obtain ⟨e0, hE0, he0⟩ := hlastE
  have eL : EE (tOp (rIx K) (tVar 1) (tUn (rU fun i => .int (-i)) (tC (.int 1)))) (initG ["naming", "row", "size", "own", "later"] [eNm N, eRw r, .int (n : Int)]) (eEnt (r.getD N.length none)) := ee_op (od_ix_te (row_last hr)) (ee_var rfl) (ee_neg (ee_int 1))
  have hon : ∀ k, e0 = (false, k) → k < N.length := fun k hk => by
    rcases he0 with h | h
    · exact (hr.on _ k (by rw [h, hk])).1
    · exact (hr.on _ k (by rw [h.2, hk])).1
  refine s_seq (s_set (d := eEn e0) (ee_if (b := !isNon (eEnt (r.getD N.length none))) (et_B (ee_notN eL)) (fun h => ?_) (fun h => ?_)) A fun σ1 H1 A1 => ?_)
  · rcases he0 with h1 | h1
    · rw [h1] at eL; exact eL
    · rw [h1.1] at h; exact absurd h (by decide)
  · rcases he0 with h1 | h1
    · rw [h1] at h; exact absurd h (by show ¬ (!false) = false; decide)
    · have := ee_entry (K := K) (r := r) (j := 0) (Γ := initG ["naming", "row", "size", "own", "later"] [eNm N, eRw r, .int (n : Int)]) (te := tVar 1) (tj := tC (.int 0)) (ee_var rfl) (ee_int 0) (by rw [hr.len]; omega)
      rw [h1.2] at this
      exact this
  · refine s_seq (s_while (fun x : En × Nat × Slv => [.dat (eNm N), .dat (eRw r), .dat (.int (n : Int)), .dat (eEn x.1), x.2.2]) (fun x => !x.1.1) (fun x => x.2.1) (fun x => endR N r = endE N r x.2.1 x.1 ∧ 1 ≤ x.2.1 ∧ ∀ k, x.1 = (false, k) → k < N.length ∧ N.length < k + x.2.1) (e0, N.length + 1, .unk) ⟨by unfold endR; rw [hE0], Nat.le_add_left 1 N.length, fun k hk => ⟨hon k hk, by show N.length < k + (N.length + 1); omega⟩⟩ A1 ?_ ?_ ?_)
    · rintro ⟨e, f, x4⟩ _
      exact et_on (e := e) (ee_var rfl)
    · rintro ⟨⟨b, q⟩, f, x4⟩ σ2 H2 ⟨hI, hf, hk⟩ hb A2
      have hb' : b = false := by cases b <;> simp_all
      subst hb'
      obtain ⟨hq, hqf⟩ := hk q rfl
      simp only at hI hf hqf
      obtain ⟨f, rfl⟩ : ∃ g, f = g + 1 := ⟨f - 1, by omega⟩
      refine s_seq (s_set (ee_succ (ee_num (e := (false, q)) (ee_var rfl))) A2 fun σ3 H3 A3 => ?_)
      refine s_seq (s_while (fun j : Nat => [.dat (eNm N), .dat (eRw r), .dat (.int (n : Int)), .dat (eEn (false, q)), .dat (.int (j : Int))]) (fun j => decide (j < N.length) && side N j) (fun j => N.length - j) (fun j => q + 1 ≤ j ∧ j ≤ N.length ∧ skip true N j = skip true N (q + 1)) (q + 1) ⟨Nat.le_refl _, hq, rfl⟩ A3 ?_ ?_ ?_)
      · intro j ⟨h1, h2, h3⟩
        exact et_and (et_ltN (ee_var rfl) (ee_lenN (ee_var rfl))) (fun h => et_next (ee_side (ee_var rfl) (ee_var rfl) (of_decide_eq_true h)))
      · intro j σ4 H4 ⟨h1, h2, h3⟩ hb A4
        rw [Bool.and_eq_true] at hb
        have hj := of_decide_eq_true hb.1
        refine s_set (ee_succ (ee_var rfl)) A4 fun σ5 H5 A5 => ⟨j + 1, ⟨by omega, by omega, ?_⟩, by omega, A5⟩
        rw [← skip_step hj hb.2, h3]
      · intro j σ4 H4 ⟨h1, h2, h3⟩ hb A4
        have e : skip true N j = j := skip_over h2 (by have hb' : (decide (j < N.length) && side N j) = false := hb; revert hb'; cases side N j <;> cases decide (j < N.length) <;> simp)
        rw [e] at h3
        rw [endE] at hI
        refine s_seq (s_if (et_eqN (ee_var rfl) (ee_lenN (ee_var rfl))) A4 (fun h H5 e5 A5 => ?_) (fun h H5 e5 A5 => ?_))
        · have hj := of_decide_eq_true h
          rw [← h3, if_pos hj] at hI
          refine s_retQ (ee_sc (ee_succ (ee_var rfl)) ?_) A5 (by simp) k
          unfold ended
          rw [hI]
          rfl
        · have hj := of_decide_eq_false h
          have hjl : j < N.length := by omega
          have hsd : side N j = false := by
            cases c : side N j with
            | false => rfl
            | true => rw [decide_eq_true hjl, c] at hb; exact absurd hb (by decide)
          rw [← h3, if_neg hj] at hI
          have hx := ee_entry (K := K) (r := r) (j := j) (Γ := [.dat (eNm N), .dat (eRw r), .dat (.int (n : Int)), .dat (eEn (false, q)), .dat (.int (j : Int))]) (te := tVar 1) (tj := tVar 4) (ee_var rfl) (ee_var rfl) (by rw [hr.len]; omega)
          cases hg : r.getD j none with
          | none => exact absurd hg (hr.non j hjl hsd)
          | some e =>
            rw [hg] at hI hx
            refine s_next (s_set hx A5 fun σ6 H6 A6 => ⟨(e, f, .dat (.int (j : Int))), ⟨hI, by show 1 ≤ f; omega, fun k hk => ?_⟩, by show f < f + 1; omega, A6⟩)
            have hk' : e = (false, k) := hk
            have := hr.on j k (by rw [hg, hk'])
            have := this.2.2 hjl
            exact ⟨by omega, by show N.length < k + f; omega⟩
    · rintro ⟨⟨b, q⟩, f, x4⟩ σ2 H2 ⟨hI, hf, hk⟩ hb A2
      have hb' : b = true := by cases b <;> simp_all
      subst hb'
      simp only at hI hf
      obtain ⟨f, rfl⟩ : ∃ g, f = g + 1 := ⟨f - 1, by omega⟩
      rw [endE] at hI
      refine s_retQ (ee_sc (ee_num (e := (true, q)) (ee_var rfl)) ?_) A2 (by simp) k
      unfold ended
      rw [hI]
      rfl
end
end Nx
set_option maxHeartbeats 4000000
/-! the program's defs, 5: the form of rows -/
namespace Nx
open PySem PySem.Spec PyProof.Rows L2
def eForm (x : List Rw × List Int) : PyData := .tuple [.tuple (x.1.map eRw), .tuple (x.2.map .int)]
def eRows (rows : List Rw) : PyData := .tuple (rows.map eRw)
theorem filterMap_as {α β γ : Type} (g : α → Option β) (b0 : β) (F : β → γ) : ∀ l : List α, (l.filter fun o => (g o).isSome).map (fun o => F ((g o).getD b0)) = (l.filterMap g).map F
  | [] => rfl
  | a :: l => by
    rw [List.filter_cons, List.filterMap_cons]
    cases h : g a with
    | none =>
      simp only [Option.isSome_none, Bool.false_eq_true, if_false]
      exact filterMap_as g b0 F l
    | some b =>
      simp only [Option.isSome_some, if_true, List.map_cons, h, Option.getD_some]
      rw [filterMap_as g b0 F l]
theorem sortI {out : List Int} {rows : List Rw} (h1 : out.Pairwise (· < ·)) (h2 : ∀ k, k ∈ out ↔ k ∈ (0 :: ats rows).map fun n : Nat => (n : Int)) : out = (places rows).map fun n : Nat => (n : Int) := by
  have nn : ∀ k ∈ out, 0 ≤ k := fun k hk => by
    obtain ⟨n, _, e⟩ := List.mem_map.mp ((h2 k).mp hk)
    omega
  refine sorted_eq Int.toNat ?_ ?_ fun k => ?_
  · refine List.Pairwise.imp_of_mem (fun {a b} ha hb h => ?_) h1
    have := nn a ha
    omega
  · rw [List.pairwise_map]
    refine (places_asc rows).imp fun {a b} h => ?_
    omega
  · rw [h2, List.mem_map, List.mem_map]
    constructor
    · rintro ⟨n, hn, e⟩; exact ⟨n, mem_places.mpr hn, e⟩
    · rintro ⟨n, hn, e⟩; exact ⟨n, mem_places.mp hn, e⟩
section
variable {P : Program} {w : World} {K : PySem.W.Frag} {mg : Str → Option Value} {base : Heap}
def R_form_of (ds : List PyData) (d : PyData) : Prop := ∃ (rows : List Rw) (w : Tx), ds = [eRows rows, eTx w] ∧ rows.length ≤ 10 ∧ (∀ r ∈ rows, r.length ≤ 1000) ∧ rows.flatten.length ≤ 60 ∧ (∀ p ∈ places rows, p ≤ w.length) ∧ w.length ≤ 1000 ∧ d = eForm (formOf rows w)
theorem ok_form_of {f : Addr} {fd : FuncData} (B : Bl mg) (F : Fun K "form_of" "form_of" s_form_of f fd) : FnOk P w K mg base CX0 1 f fd ["rows", "text"] (FD R_form_of) := by
  refine ok_fd F sc_form_of (fun ds d ⟨_, _, h, _⟩ => by rw [h]; rfl) (fun cdv A outer s H E hr => ⟨_, (pss_cons (ps_set (i := 2) sc_form_of.nd rfl (.inr rfl) (pe_callB (cr_sortedSet rfl) (by rfl) B.sorted (by decide +kernel) (pa_cons (pe_callTy (cr_setL rfl) (by rfl) B.set (by decide +kernel) (pa_cons (pe_op (op_addK (K := K) rfl) (pe_lst (pa_cons pe_int pa_nil)) (pe_lc2 (own := [("row", 4), ("own", 5)]) (vs1 := [5]) rfl sc_form_of.nd (pi_tupK (K := K) rfl (pv 0)) (blkOk_by (N := ["rows", "text", "places", "form", "row", "own", "place"]) (sc := (defScope s_form_of)) (by decide +kernel)) (by decide) (fun _ _ _ _ _ => (pg_name (i := 4) sc_form_of.nd rfl (.inl rfl))) (fun _ _ _ _ _ => pts_nil) (fun _ _ _ _ _ => (pi_tupK (K := K) rfl (pv 4))) (fun _ _ _ _ _ => (pg_name (i := 5) sc_form_of.nd rfl (.inl rfl))) (fun _ _ _ _ _ => (pts_one (PW.pt (pw_and (pt_cmp (pc_notN (pv 5))) (pw_and1 (pt_cmpR op_eq (pe_ix (ix_seqK (K := K) rfl) (pv 5) pe_int (fun _ _ => rfl)) pe_str (nomark _))))))) (fun _ _ _ _ _ => (pe_ix (ix_seqK (K := K) rfl) (pv 5) pe_int (fun _ _ => rfl))))) pa_nil)) pa_nil)))
      (pss_cons (ps_setLc (i := 3) (own := [("row", 4)]) rfl sc_form_of.nd rfl rfl (sw_true rfl rfl rfl (by decide +kernel)) (pi_tupK (K := K) rfl (pv 0)) (blkOk_by (N := ["rows", "text", "places", "form", "row", "own", "place"]) (sc := (defScope s_form_of)) (by decide +kernel)) (fun _ _ _ _ _ => (pg_name (i := 4) sc_form_of.nd rfl (.inl rfl))) (fun _ _ _ _ _ => pts_nil) (fun _ _ _ _ _ => (pe_callTy (tup_K (K := K) rfl) (by rfl) B.tuple (by decide +kernel) (pa_cons (pe_lc (own := [("own", 5)]) rfl sc_form_of.nd (pi_tupK (K := K) rfl (pv 4)) (blkOk_by (N := ["rows", "text", "places", "form", "row", "own", "place"]) (sc := (relS (lcScope (defScope s_form_of) (valOf ((defBody s_form_of).getD 1 (.Pass ⟨0, 0, 0, 0⟩)))) (defScope s_form_of))) (by decide +kernel)) (fun _ _ _ _ _ => (pg_name (i := 5) sc_form_of.nd rfl (.inl rfl))) (fun _ _ _ _ _ => pts_nil) (fun _ _ _ _ _ => (pe_ifExp (PW.pt (pw_and (pt_cmp (pc_notN (pv 5))) (pw_and1 (pt_cmpR op_eq (pe_ix (ix_seqK (K := K) rfl) (pv 5) pe_int (fun _ _ => rfl)) pe_str (nomark _))))) (pe_tup (pa_cons (pe_ix (ix_seqK (K := K) rfl) (pv 5) pe_int (fun _ _ => rfl)) (pa_cons (pe_bmK (K := K) rfl PySem.F.plainAttrs_list PySem.F.slot_list_index PySem.F.type_list_index (index_K (K := K) rfl) (pv 2) (pa_cons (pe_ix (ix_seqK (K := K) rfl) (pv 5) pe_int (fun _ _ => rfl)) pa_nil)) pa_nil))) (pv 5)))) pa_nil))))
      (pss_one (ps_ret (pe_tup (pa_cons (pe_callTy (tup_K (K := K) rfl) (by rfl) B.tuple (by decide +kernel) (pa_cons (pv 3) pa_nil)) (pa_cons (pe_callTy (tup_K (K := K) rfl) (by rfl) B.tuple (by decide +kernel) (pa_cons (pe_lc (own := [("place", 6)]) rfl sc_form_of.nd (pi_listK (K := K) rfl (pe_slice (sl_K (K := K) rfl) (pv 2) (po_some pe_int) po_none)) (blkOk_by (N := ["rows", "text", "places", "form", "row", "own", "place"]) (sc := (defScope s_form_of)) (by decide +kernel)) (fun _ _ _ _ _ => (pg_name (i := 6) sc_form_of.nd rfl (.inl rfl))) (fun _ _ _ _ _ => pts_nil) (fun _ _ _ _ _ => (pe_ix (ix_seqK (K := K) rfl) (pv 1) (pe_op op_sub (pv 6) pe_int) (fun _ _ => rfl)))) pa_nil)) pa_nil))))))), ?_⟩)
  rintro O H ds d σ Q ⟨rows, t, rfl, h1, h2, h3, h4, h5, rfl⟩ A k
  have hat : ∀ {Γ : List Slv} {o : Ent}, Γ[5]? = some (.dat (eEnt o)) → ET (tAnd (tB (tNotN (tVar 5))) (tTest (tOp rEq (tOp (rIx K) (tVar 5) (tC (.int 0))) (tC (.str "at"))))) Γ (atOf o).isSome := fun {Γ o} hv => by
    cases o with
    | none => exact et_is (et_and (a := false) (b := false) (et_B (ee_notN (d := eEnt none) (ee_var hv))) (fun h => nomatch h)) rfl
    | some e =>
      refine et_is (et_and (a := true) (et_B (ee_notN (d := eEn e) (ee_var hv))) (fun _ => et_at (e := e) (ee_var hv))) ?_
      obtain ⟨b, q⟩ := e
      cases b <;> rfl
  have ha : (ats rows).length ≤ 60 := Nat.le_trans (List.length_filterMap_le _ _) h3
  have hdat : (((rows.flatMap id).filter fun o => (atOf o).isSome).map fun o => PyData.int (((atOf o).getD 0 : Nat) : Int)) = (ats rows).map fun n : Nat => PyData.int (n : Int) := by
    rw [filterMap_as atOf 0 (fun n : Nat => PyData.int (n : Int)), List.flatMap_id]
    rfl
  have e1 : EE _ (initG ["rows", "text", "places", "form", "row", "own", "place"] [eRows rows, eTx t]) _ := ee_lc2 (wi := iTup K (tVar 0)) (wi1 := iTup K (tVar 4)) (g := gName 4) (g1 := gName 5) (tt1 := tAnd (tB (tNotN (tVar 5))) (tTest (tOp rEq (tOp (rIx K) (tVar 5) (tC (.int 0))) (tC (.str "at"))))) (te := tOp (rIx K) (tVar 5) (tC (.int 1))) (vs := [4, 5]) (vs1 := [5]) rows eRw id eEnt (fun o => (atOf o).isSome) (fun o => .int (((atOf o).getD 0 : Nat) : Int))
    (fun r => [.dat (eRows rows), .dat (eTx t), .unk, .unk, .dat (eRw r), .unk, .unk]) (fun r o => [.dat (eRows rows), .dat (eTx t), .unk, .unk, .dat (eRw r), .dat (eEnt o), .unk]) (ei_tup (ee_var rfl)) (by rw [List.flatMap_id]; omega)
    (fun r hr => gt_name (by decide)) (fun r hr => ei_tup (ee_var rfl)) (fun r hr o ho => gt_name (by decide)) (fun r hr o ho => hat rfl) (fun r hr o ho hf => by
      obtain _ | ⟨b, q⟩ := o
      · cases hf
      · cases b with
        | false => cases hf
        | true => exact ee_num (e := (true, q)) (ee_var rfl))
  rw [hdat] at e1
  have e2 := ee_op (od_addL (K := K) (ds := [.int 0]) (by rw [List.length_map, List.length_singleton]; omega)) (ee_lst (ea_cons (ee_int 0) ea_nil) (by decide)) e1
  have e3 : EE _ _ (.list (((0 :: ats rows).map fun n : Nat => (n : Int)).map .int)) := ee_sc e2 (by rw [List.map_map]; rfl)
  refine s_seq (s_set (ee_sc (ee_sortSet ((places rows).map fun n : Nat => (n : Int)) e3 (by rw [List.length_map, List.length_cons]; omega) (fun out o1 o2 => sortI o1 o2)) (d2 := .list ((places rows).map fun n : Nat => .int (n : Int))) (by rw [List.map_map]; rfl)) A fun σ1 H1 A1 => ?_)
  have hin : ∀ r ∈ rows, ∀ p, some (true, p) ∈ r → p ∈ places rows := fun r hr p hp => mem_places.mpr (List.mem_cons_of_mem _ (mem_ats hr hp))
  refine s_seq (s_set (i := 3) (ee_lcY rows eRw (fun r => eRw (mapR (fun p => (places rows).idxOf p) r)) (fun r => [.dat (eRows rows), .dat (eTx t), .dat (.list ((places rows).map fun n : Nat => .int (n : Int))), .unk, .dat (eRw r), .unk, .unk]) (ei_tup (ee_var rfl)) (by omega) (fun r hr => gt_name (by decide)) (fun r hr => ?_)) A1 fun σ2 H2 A2 => ?_)
  · have hrl := h2 r hr
    refine ee_sc (ee_cb cd_tupL (ea_cons (ee_lcY r eEnt (fun o => eEnt (o.map (mapE fun p => (places rows).idxOf p))) (fun o => [.dat (eRows rows), .dat (eTx t), .dat (.list ((places rows).map fun n : Nat => .int (n : Int))), .unk, .dat (eRw r), .dat (eEnt o), .unk]) (ei_tup (ee_var rfl)) (by omega) (fun o ho => gt_name (by decide)) (fun o ho => ?_)) ea_nil)) ?_
    · refine ee_if (hat (o := o) rfl) (fun h => ?_) (fun h => ?_)
      · obtain _ | ⟨b, q⟩ := o
        · cases h
        · cases b with
          | false => cases h
          | true => exact ee_tup (ea_cons (ee_kind (e := (true, q)) (ee_var rfl)) (ea_cons (ee_index (ee_var rfl) (ee_num (e := (true, q)) (ee_var rfl)) (hin r hr q ho)) ea_nil)) (by show 2 ≤ 1000; decide)
      · obtain _ | ⟨b, q⟩ := o
        · exact ee_var rfl
        · cases b with
          | false => exact ee_var rfl
          | true => cases h
    · unfold eRw mapR
      rw [List.map_map]
      rfl
  · have hpl : (places rows).length ≤ 1000000 := by
      have := asc_len (places rows) 0 (t.length + 1) (places_asc rows) (fun p hp => ⟨Nat.zero_le _, by have := h4 p hp; omega⟩) (Nat.zero_le _)
      omega
    refine s_retQ (H0 := H) (ee_tup (ea_cons (ee_cb cd_tupL (ea_cons (ee_var rfl) ea_nil)) (ea_cons (ee_cb cd_tupL (ea_cons (ee_lcY ((places rows).drop 1) (fun n : Nat => .int (n : Int)) (fun p => .int (t.getD (p - 1) 0)) (fun p => [.dat (eRows rows), .dat (eTx t), .dat (.list ((places rows).map fun n : Nat => .int (n : Int))), .dat (.list (rows.map fun r => eRw (mapR (fun p => (places rows).idxOf p) r))), .unk, .unk, .dat (.int (p : Nat))])
      (by
        have := ei_list (K := K) (ee_slL (K := K) (Γ := [.dat (eRows rows), .dat (eTx t), .dat (.list ((places rows).map fun n : Nat => .int (n : Int))), .dat (.list (rows.map fun r => eRw (mapR (fun p => (places rows).idxOf p) r))), .unk, .unk, .unk]) (te := tVar 2) (ee_var rfl) (eo_some (ee_int 1)) eo_none)
        rw [cutD_from1, ← List.map_drop] at this
        exact this) (by rw [List.length_drop]; omega) (fun p hp => gt_name (by decide)) (fun p hp => ?_)) ea_nil)) ea_nil)) (by show 2 ≤ 1000; decide)) A2 (by simp) ?_
    · obtain ⟨r, er, h0⟩ := places_cons rows
      rw [er] at hp
      have hp1 := h0 p hp
      have hp2 := h4 p (by rw [er]; exact List.mem_cons_of_mem _ hp)
      exact ee_op (od_ix_t (tx_ix (by omega))) (ee_var rfl) (ee_pred (by omega) (ee_var rfl))
    · intro v H3 e3 h3
      refine k v H3 e3 ?_
      have e : eForm (formOf rows t) = .tuple [.tuple (rows.map fun r => eRw (mapR (fun p => (places rows).idxOf p) r)), .tuple (((places rows).drop 1).map fun p => .int (t.getD (p - 1) 0))] := by
        unfold eForm formOf
        simp only [List.map_map]
        rfl
      rw [e]
      exact h3
end
end Nx
set_option maxHeartbeats 4000000
/-! the program's defs, 6: told_by_texts -/
namespace Nx
open PySem PySem.Spec PyProof.Rows L2
/-! ### forms as keys -/
theorem nks_map : ∀ ds : List PyData, nks ds = ds.map nk
  | [] => rfl
  | d :: ds => by rw [nks, nks_map ds]; rfl
theorem map_inj {α β : Type} {f : α → β} (h : ∀ x y, f x = f y → x = y) : ∀ l m : List α, l.map f = m.map f → l = m
  | [], [], _ => rfl
  | [], b :: m, e => by cases e
  | a :: l, [], e => by cases e
  | a :: l, b :: m, e => by
    rw [List.map_cons, List.map_cons, List.cons.injEq] at e
    rw [h a b e.1, map_inj h l m e.2]
theorem nk_tup {α : Type} {e : α → PyData} (h : ∀ x y, nk (e x) = nk (e y) → x = y) {l m : List α} (q : nk (.tuple (l.map e)) = nk (.tuple (m.map e))) : l = m := by
  rw [nk, nk, NestedKey.tup.injEq, nks_map, nks_map, List.map_map, List.map_map] at q
  exact map_inj h l m q
theorem eEnt_inj (o o' : Ent) (h : nk (eEnt o) = nk (eEnt o')) : o = o' := by
  obtain _ | ⟨b, p⟩ := o <;> obtain _ | ⟨c, q⟩ := o'
  · rfl
  · cases h
  · cases h
  · have h' : NestedKey.tup [.text (if b then "at" else "on"), .num (p : Int)] = NestedKey.tup [.text (if c then "at" else "on"), .num (q : Int)] := h
    rw [NestedKey.tup.injEq, List.cons.injEq, List.cons.injEq, NestedKey.text.injEq, NestedKey.num.injEq] at h'
    obtain ⟨h1, h2, _⟩ := h'
    have e : p = q := by omega
    subst e
    cases b <;> cases c
    · rfl
    · exact absurd h1 (by decide)
    · exact absurd h1 (by decide)
    · rfl
theorem eForm_inj (x y : List Rw × List Int) (h : nk (eForm x) = nk (eForm y)) : x = y := by
  obtain ⟨a, b⟩ := x
  obtain ⟨c, d⟩ := y
  have h' : NestedKey.tup [nk (.tuple (a.map eRw)), nk (.tuple (b.map .int))] = NestedKey.tup [nk (.tuple (c.map eRw)), nk (.tuple (d.map .int))] := h
  rw [NestedKey.tup.injEq, List.cons.injEq, List.cons.injEq] at h'
  rw [nk_tup (fun x y e => nk_tup eEnt_inj e) h'.1, nk_tup (fun x y e => by rw [nk, nk, NestedKey.num.injEq] at e; exact e) h'.2.1]
theorem dep_le {ds : List PyData} {n : Nat} (h : ∀ d ∈ ds, (nk d).depth ≤ n) : (nk (.tuple ds)).depth ≤ n + 1 := by
  rw [nk, nks_map, NestedKey.depth]
  have : ∀ ds : List PyData, (∀ d ∈ ds, (nk d).depth ≤ n) → NestedKey.depthAll (ds.map nk) ≤ n := fun ds => by
    induction ds with
    | nil => intro _; exact Nat.zero_le _
    | cons d ds ih =>
      intro h
      rw [List.map_cons, NestedKey.depthAll]
      exact Nat.max_le.mpr ⟨h d List.mem_cons_self, ih fun x hx => h x (List.mem_cons_of_mem _ hx)⟩
  have := this ds h
  omega
theorem flat_map {α : Type} {e : α → PyData} (h : ∀ x, flatD (e x) = true) (l : List α) : flatD (.tuple (l.map e)) = true := by
  rw [flatD, flatDs_all]
  intro d hd
  obtain ⟨x, _, rfl⟩ := List.mem_map.mp hd
  exact h x
theorem flat_ent (o : Ent) : flatD (eEnt o) = true := by
  cases o <;> rfl
theorem flat_form (x : List Rw × List Int) : flatD (eForm x) = true := by
  show flatDs [_, _] = true
  rw [flatDs_all]
  intro d hd
  rcases List.mem_cons.mp hd with e | hd
  · rw [e]; exact flat_map (fun r => flat_map flat_ent r) _
  · rw [List.mem_singleton.mp hd]; exact flat_map (fun _ => rfl) _
theorem key_form (x : List Rw × List Int) : KeyD (eForm x) := by
  refine ⟨flat_form x, ?_, ⟨_, rfl⟩⟩
  refine Nat.le_trans (dep_le (n := 4) fun d hd => ?_) (by decide)
  rcases List.mem_cons.mp hd with e | hd
  · rw [e]
    refine dep_le (n := 3) fun d hd => ?_
    obtain ⟨r, _, rfl⟩ := List.mem_map.mp hd
    refine dep_le (n := 2) fun d hd => ?_
    obtain ⟨o, _, rfl⟩ := List.mem_map.mp hd
    cases o with
    | none => exact Nat.zero_le _
    | some e =>
      refine dep_le (n := 1) fun d hd => ?_
      rcases List.mem_cons.mp hd with e | hd
      · rw [e]; exact Nat.zero_le _
      · rw [List.mem_singleton.mp hd]; exact Nat.zero_le _
  · rw [List.mem_singleton.mp hd]
    refine dep_le (n := 3) fun d hd => ?_
    obtain ⟨i, _, rfl⟩ := List.mem_map.mp hd
    exact Nat.zero_le _
theorem mem_form {Ns : List Nm} {ts : List Tx} {t : Tx} : nk (eForm (form Ns t)) ∈ (ts.map fun t => eForm (form Ns t)).map nk ↔ form Ns t ∈ ts.map (form Ns) := by
  rw [List.map_map, List.mem_map, List.mem_map]
  constructor
  · rintro ⟨u, hu, e⟩; exact ⟨u, hu, eForm_inj _ _ e⟩
  · rintro ⟨u, hu, e⟩; exact ⟨u, hu, by show nk (eForm (form Ns u)) = _; rw [e]⟩
/-! ### the list of the texts, the dict of the forms -/
structure NsOk (W : Nat) (Ns : List Nm) : Prop where
  ne : ∀ N ∈ Ns, N ≠ []
  few : Ns.length ≤ 2
  len : ∀ N ∈ Ns, N.length ≤ 10
  W2 : 2 ≤ W
  W3 : W ≤ 3
  size : 2 * W ^ costs Ns ≤ 2000000
  cost : costs Ns ≤ 100
def eIt (Ns : List Nm) (t : Tx) : PyData := .tuple [eRows (rowsOf Ns t), eTx t]
def eTold (Ns : List Nm) (ts : List Tx) : PyData := .list (ts.map fun t => .tuple [eTx t, .tuple (Ns.map fun N => .int (named N t : Nat))])
theorem rows_few {W : Nat} {Ns : List Nm} (h : NsOk W Ns) (t : Tx) : (rowsOf Ns t).length ≤ 10 ∧ (∀ r ∈ rowsOf Ns t, r.length ≤ 1000) ∧ (rowsOf Ns t).flatten.length ≤ 60 := by
  have hl : ∀ r ∈ rowsOf Ns t, r.length ≤ 11 := fun r hr => by
    obtain ⟨N, hN, rfl⟩ := List.mem_map.mp hr
    rw [(rowOk_of (h.ne N hN) t).len]
    have := h.len N hN
    omega
  have hf : ∀ l : List Rw, (∀ r ∈ l, r.length ≤ 11) → l.flatten.length ≤ 11 * l.length := fun l => by
    induction l with
    | nil => intro _; exact Nat.zero_le _
    | cons a l ih =>
      intro h
      have h1 := ih fun x hx => h x (List.mem_cons_of_mem _ hx)
      have h2 := h a List.mem_cons_self
      rw [List.flatten_cons, List.length_append, List.length_cons]
      omega
  have h1 : (rowsOf Ns t).length ≤ 2 := by unfold rowsOf; rw [List.length_map]; exact h.few
  have h2 := hf _ hl
  exact ⟨by omega, fun r hr => by have := hl r hr; omega, by omega⟩
theorem rows_more (Ns : List Nm) (t : Tx) (b : Int) : eRows (rowsOf Ns (t ++ [b])) = .tuple (Ns.map fun N => eRw (grown N (rowOf N t) b (t.length + 1))) := by
  unfold eRows rowsOf
  rw [List.map_map]
  congr 1
  refine List.map_congr_left fun N _ => ?_
  show eRw (rowOf N (t ++ [b])) = _
  rw [rowOf_snoc]
section
variable {P : Program} {w : World} {K : PySem.W.Frag} {mg : Str → Option Value} {base : Heap}
theorem Ow.own {O : List Addr} {H : Hp} {p a : Addr} {ds : List PyData} {o : HO} (h : Ow O H p ds) (ha : H a = none) : Ow (a :: O) (upd H a o) p ds := by
  obtain ⟨xs, h1, h2⟩ := h
  exact ⟨xs, by rw [upd_ne (ne_of_none h1 ha)]; exact h1, by rw [cut_new ha]; exact h2⟩
theorem Ow.less {O : List Addr} {H : Hp} {p a : Addr} {ds : List PyData} (h : Ow (a :: O) H p ds) : Ow O H p ds := by
  obtain ⟨xs, h1, h2⟩ := h
  exact ⟨xs, h1, h2.mono (SL.of (cut_more fun a h => List.mem_cons_of_mem _ h))⟩
theorem tst_of {H H' : Hp} {p : Addr} {xs : List V} (h : H p = some (.lst xs)) (e : SameB [p] H H') : Tst H H' := fun b o ho hb => e b o (fun z => by
  rw [List.mem_singleton.mp z, h] at hb
  cases hb
  cases ho) hb
theorem DSet.same {H H' : Hp} {a : Addr} {ds : List PyData} (h : DSet K P w H a ds) (e : Same H H') : DSet K P w H' a ds := by
  obtain ⟨xs, h1, h2, h3⟩ := h
  exact DSet.of ⟨xs, h1, h2, h3⟩ (Sst.of e).tx (by rw [e a _ h1, h1])
def Hst (P : Program) (w : World) (K : PySem.W.Frag) (O : List Addr) (p a : Addr) (Ns : List Nm) (H : Hp) (ts : List Tx) : Prop := Ow O H p (ts.map (eIt Ns)) ∧ DSet K P w H a (ts.map fun t => eForm (form Ns t))
theorem Hst.same {O : List Addr} {p a : Addr} {Ns : List Nm} {H H' : Hp} {ts : List Tx} (h : Hst P w K O p a Ns H ts) (e : Same H H') : Hst P w K O p a Ns H' ts := ⟨h.1.mono e, h.2.same e⟩
abbrev gT (d0 d1 d2 : PyData) (p a : Addr) (t : Nat) (x3 x7 x8 x9 x10 x11 : Slv) : List Slv := [.dat d0, .dat d1, .dat d2, x3, .adr p, .adr a, .dat (.int (t : Int)), x7, x8, x9, x10, x11, .unk, .unk]
theorem zip_rows (Ns : List Nm) (t : Tx) : List.zipWith pairD (Ns.map eNm) ((rowsOf Ns t).map eRw) = Ns.map fun N => pairD (eNm N) (eRw (rowOf N t)) := by
  unfold rowsOf
  rw [List.map_map, List.zipWith_map]
  induction Ns with
  | nil => rfl
  | cons N Ns ih => rw [List.zipWith_cons_cons, ih]; rfl
def R_told (ds : List PyData) (d : PyData) : Prop := ∃ (W : Nat) (Ns : List Nm) (x : PyData), ds = [.int (W : Int), x] ∧ tree 5 x ∧ tupD 5 x = .tuple (Ns.map eNm) ∧ NsOk W Ns ∧ d = eTold Ns (told W Ns)
theorem par3_open {te tk tv t0 : TE} {i j l : Nat} {σ : L2.St} {H : Hp} {D : L2.Ends}
    (h : te σ H fun v H1 => [v].length ≤ sizeLine ∧ ∀ p, H1 p = none → (tDispN K P w tk tv) σ (upd H1 p (.lst [v])) fun y H2 => t0 σ H2 fun z H3 => ∃ a b c, [V.ref p, y, z] = [a, b, c] ∧ D.nx (((σ.set i (some a)).set j (some b)).set l (some c)) H3) : tPar3 i j l (tCons (tLst (tCons te tNil)) (tCons (tDispN K P w tk tv) (tCons t0 tNil))) D σ H := h
set_option maxHeartbeats 16000000 in
theorem ok_told_by_texts {f : Addr} {fd : FuncData} (B : Bl mg) {f_tuple_of : Addr} {fd_tuple_of : FuncData} (C_tuple_of : Cl K mg "tuple_of" f_tuple_of fd_tuple_of ["thing"]) (G_tuple_of : FnOk P w K mg base CX0 5 f_tuple_of fd_tuple_of ["thing"] (FD (R_tuple_of 5))) {f_begun : Addr} {fd_begun : FuncData} (C_begun : Cl K mg "begun" f_begun fd_begun ["naming"]) (G_begun : FnOk P w K mg base CX0 2 f_begun fd_begun ["naming"] (FD R_begun))
    {f_form_of : Addr} {fd_form_of : FuncData} (C_form_of : Cl K mg "form_of" f_form_of fd_form_of ["rows", "text"]) (G_form_of : FnOk P w K mg base CX0 1 f_form_of fd_form_of ["rows", "text"] (FD R_form_of)) {f_grown : Addr} {fd_grown : FuncData} (C_grown : Cl K mg "grown" f_grown fd_grown ["naming", "row", "letter", "place"]) (G_grown : FnOk P w K mg base CX0 22 f_grown fd_grown ["naming", "row", "letter", "place"] (FD R_grown))
    {f_ended : Addr} {fd_ended : FuncData} (C_ended : Cl K mg "ended" f_ended fd_ended ["naming", "row", "size"]) (G_ended : FnOk P w K mg base CX0 1 f_ended fd_ended ["naming", "row", "size"] (FD R_ended)) (F : Fun K "told_by_texts" "told_by_texts" s_told_by_texts f fd) : FnOk P w K mg base CX0 23 f fd ["wide", "namings"] (FD R_told) := by
  refine ok_fd F sc_told_by_texts (fun ds d ⟨_, _, _, h, _⟩ => by rw [h]; rfl) (fun cdv A outer s H E hr => ⟨_, (pss_cons (ps_set (i := 2) sc_told_by_texts.nd rfl (.inr rfl) (pe_call G_tuple_of (hr.mono (by first | decide | exact Nat.le_refl _ | omega)) (by rfl) C_tuple_of.g C_tuple_of.k C_tuple_of.b .nil pass0 (pa_cons (pv 1) pa_nil)))
      (pss_cons (ps_set (i := 3) sc_told_by_texts.nd rfl (.inl rfl) (pe_callTy (tup_K (K := K) rfl) (by rfl) B.tuple (by decide +kernel) (pa_cons (pe_lc (own := [("naming", 12)]) rfl sc_told_by_texts.nd (pi_tupK (K := K) rfl (pv 2)) (blkOk_by (N := ["wide", "namings", "own", "rows", "left", "forms", "turn", "text", "letter", "later", "more", "form", "naming", "row"]) (sc := (defScope s_told_by_texts)) (by decide +kernel)) (fun _ _ _ _ _ => (pg_name (i := 12) sc_told_by_texts.nd rfl (.inl rfl))) (fun _ _ _ _ _ => pts_nil) (fun _ _ _ _ _ => (pe_call G_begun (hr.mono (by first | decide | exact Nat.le_refl _ | omega)) (by rfl) C_begun.g C_begun.k C_begun.b .nil pass0 (pa_cons (pv 12) pa_nil)))) pa_nil)))
      (pss_cons (ps_par3 (i := 4) (j := 5) (l := 6) rfl sc_told_by_texts.nd rfl rfl rfl (by decide) (by decide) (by decide) rfl rfl rfl (pa_cons (pe_lst (pa_cons (pe_tup (pa_cons (pv 3) (pa_cons (pe_tup pa_nil) pa_nil))) pa_nil)) (pa_cons (pe_dispN hr.units (pe_call G_form_of (hr.mono (by first | decide | exact Nat.le_refl _ | omega)) (by rfl) C_form_of.g C_form_of.k C_form_of.b .nil pass0 (pa_cons (pv 3) (pa_cons (pe_tup pa_nil) pa_nil))) pe_bl) (pa_cons pe_int pa_nil))) rfl)
      (pss_cons (ps_while PassesOwn.never (pt_cmpR op_lt (pv 6) (pe_callB (len_K (K := K) rfl) (by rfl) B.len PySem.boot_len (pa_cons (pv 4) pa_nil)) (nomark _)) (pss_cons (ps_asg (pe_tup (pa_cons (pe_ix (ix_seqK (K := K) rfl) (pv 4) (pv 6) (fun _ _ => rfl)) (pa_cons (pe_op (op_addK (K := K) rfl) (pv 6) pe_int) pa_nil))) (pg_tupK (K := K) (n := 2) rfl rfl (pgs_cons (pg_tupK (K := K) (n := 2) rfl rfl (pgs_cons (pg_name (i := 3) sc_told_by_texts.nd rfl (.inl rfl)) (pgs_cons (pg_name (i := 7) sc_told_by_texts.nd rfl (.inl rfl)) pgs_nil))) (pgs_cons (pg_name (i := 6) sc_told_by_texts.nd rfl (.inl rfl)) pgs_nil))))
      (pss_one (ps_for PassesOwn.never rfl (pi_range2 (by rfl) B.range (pa_cons pe_int (pa_cons (pe_op (op_addK (K := K) rfl) (pv 0) pe_int) pa_nil))) (pg_name (i := 8) sc_told_by_texts.nd rfl (.inr rfl)) (pss_cons (ps_set (i := 9) sc_told_by_texts.nd rfl (.inr rfl) (pe_tup (pa_starK (K := K) rfl (pv 7) (pa_cons (pv 8) pa_nil))))
      (pss_cons (ps_set (i := 10) sc_told_by_texts.nd rfl (.inl rfl) (pe_callTy (tup_K (K := K) rfl) (by rfl) B.tuple (by decide +kernel) (pa_cons (pe_lc (own := [("naming", 12), ("row", 13)]) rfl sc_told_by_texts.nd (pi_zipK (K := K) rfl (by rfl) B.zip (pa_cons (pv 2) (pa_cons (pv 3) pa_nil))) (blkOk_by (N := ["wide", "namings", "own", "rows", "left", "forms", "turn", "text", "letter", "later", "more", "form", "naming", "row"]) (sc := (defScope s_told_by_texts)) (by decide +kernel)) (fun _ _ _ _ _ => (pg_tupK (K := K) (n := 2) rfl rfl (pgs_cons (pg_name (i := 12) sc_told_by_texts.nd rfl (.inl rfl)) (pgs_cons (pg_name (i := 13) sc_told_by_texts.nd rfl (.inl rfl)) pgs_nil)))) (fun _ _ _ _ _ => pts_nil) (fun _ _ _ _ _ => (pe_call G_grown (hr.mono (by first | decide | exact Nat.le_refl _ | omega)) (by rfl) C_grown.g C_grown.k C_grown.b .nil pass0 (pa_cons (pv 12) (pa_cons (pv 13) (pa_cons (pv 8) (pa_cons (pe_callB (len_K (K := K) rfl) (by rfl) B.len PySem.boot_len (pa_cons (pv 9) pa_nil)) pa_nil))))))) pa_nil)))
      (pss_cons (ps_set (i := 11) sc_told_by_texts.nd rfl (.inl rfl) (pe_call G_form_of (hr.mono (by first | decide | exact Nat.le_refl _ | omega)) (by rfl) C_form_of.g C_form_of.k C_form_of.b .nil pass0 (pa_cons (pv 10) (pa_cons (pv 9) pa_nil))))
      (pss_one (ps_if (pt_cmpR (op_notInN hr.units) (pv 11) (pv 5) (by rfl)) (pss_cons (ps_asg pe_bl (pg_sub (pv 5) (pv 11) (set_putN hr.units)))
      (pss_one (ps_expr (pe_bmK (K := K) rfl PySem.F.plainAttrs_list PySem.F.slot_list_append PySem.F.type_list_append mt_append (pv 4) (pa_cons (pe_tup (pa_cons (pv 10) (pa_cons (pv 9) pa_nil))) pa_nil))))) pss_nil)))))))))
      (pss_one (ps_ret (pe_lc (own := [("rows", 3), ("text", 7)]) rfl sc_told_by_texts.nd (pi_listK (K := K) rfl (pv 4)) (blkOk_by (N := ["wide", "namings", "own", "rows", "left", "forms", "turn", "text", "letter", "later", "more", "form", "naming", "row"]) (sc := (defScope s_told_by_texts)) (by decide +kernel)) (fun _ _ _ _ _ => (pg_tupK (K := K) (n := 2) rfl rfl (pgs_cons (pg_name (i := 3) sc_told_by_texts.nd rfl (.inl rfl)) (pgs_cons (pg_name (i := 7) sc_told_by_texts.nd rfl (.inr rfl)) pgs_nil)))) (fun _ _ _ _ _ => pts_nil) (fun _ _ _ _ _ => (pe_tup (pa_cons (pv 7) (pa_cons (pe_callTy (tup_K (K := K) rfl) (by rfl) B.tuple (by decide +kernel) (pa_cons (pe_lc (own := [("naming", 12), ("row", 13)]) rfl sc_told_by_texts.nd (pi_zipK (K := K) rfl (by rfl) B.zip (pa_cons (pv 2) (pa_cons (pv 3) pa_nil))) (blkOk_by (N := ["wide", "namings", "own", "rows", "left", "forms", "turn", "text", "letter", "later", "more", "form", "naming", "row"]) (sc := (relS (lcScope (defScope s_told_by_texts) (valOf ((defBody s_told_by_texts).getD 4 (.Pass ⟨0, 0, 0, 0⟩)))) (defScope s_told_by_texts))) (by decide +kernel)) (fun _ _ _ _ _ => (pg_tupK (K := K) (n := 2) rfl rfl (pgs_cons (pg_name (i := 12) sc_told_by_texts.nd rfl (.inl rfl)) (pgs_cons (pg_name (i := 13) sc_told_by_texts.nd rfl (.inl rfl)) pgs_nil)))) (fun _ _ _ _ _ => pts_nil) (fun _ _ _ _ _ => (pe_call G_ended (hr.mono (by first | decide | exact Nat.le_refl _ | omega)) (by rfl) C_ended.g C_ended.k C_ended.b .nil pass0 (pa_cons (pv 12) (pa_cons (pv 13) (pa_cons (pe_callB (len_K (K := K) rfl) (by rfl) B.len PySem.boot_len (pa_cons (pv 7) pa_nil)) pa_nil)))))) pa_nil)) pa_nil))))))))))), ?_⟩)
  rintro O H ds d σ Q ⟨W, Ns, x, rfl, ht, hx, hN, rfl⟩ A k
  have hNs : Ns.length ≤ 4000000 := by have := hN.few; omega
  have hmx : ∀ t : Tx, t.length ≤ 999 → ∃ _ : True, R_form_of [eRows (rowsOf Ns t), eTx t] (eForm (form Ns t)) := fun t htl => ⟨trivial, rowsOf Ns t, t, rfl, (rows_few hN t).1, (rows_few hN t).2.1, (rows_few hN t).2.2, rows_rb Ns hN.ne t, by omega, rfl⟩
  -- own, rows
  refine s_seq (s_set (ee_sc (ee_call (FD.pd ⟨x, rfl, ht, rfl⟩) (ea_cons (ee_var rfl) ea_nil)) hx) A fun σ1 H1 A1 => ?_)
  refine s_seq (s_set (ee_sc (d2 := eRows (rowsOf Ns [])) (ee_cb cd_tupL (ea_cons (ee_lcY Ns eNm (fun N => eRw (rowOf N [])) (fun N => [.dat (.int (W : Int)), .dat x, .dat (.tuple (Ns.map eNm)), .unk, .unk, .unk, .unk, .unk, .unk, .unk, .unk, .unk, .dat (eNm N), .unk]) (ei_tup (ee_var rfl)) hNs (fun N h => gt_name (by decide)) (fun N h => ee_call (FD.pd ⟨N, rfl, hN.ne N h, hN.len N h, rfl⟩) (ea_cons (ee_var rfl) ea_nil))) ea_nil)) (by unfold eRows rowsOf; rw [List.map_map]; rfl)) A1 fun σ2 H2 A2 => ?_)
  -- left, forms, turn
  dsimp only
  refine s_seq ?_
  have eItem : EE (tTup (tCons (tVar 3) (tCons (tTup tNil) tNil))) [.dat (.int (W : Int)), .dat x, .dat (.tuple (Ns.map eNm)), .dat (eRows (rowsOf Ns [])), .unk, .unk, .unk, .unk, .unk, .unk, .unk, .unk, .unk, .unk] (eIt Ns []) := ee_tup (ea_cons (ee_var rfl) (ea_cons (ee_tup ea_nil (by decide)) ea_nil)) (by show 2 ≤ 1000; decide)
  have eKey : EE (tCall (FD R_form_of) [] E0 (tCons (tVar 3) (tCons (tTup tNil) tNil))) [.dat (.int (W : Int)), .dat x, .dat (.tuple (Ns.map eNm)), .dat (eRows (rowsOf Ns [])), .unk, .unk, .unk, .unk, .unk, .unk, .unk, .unk, .unk, .unk] (eForm (form Ns [])) := ee_call (FD.pd (hmx [] (by decide)).2) (ea_cons (ee_var rfl) (ea_cons (ee_tup ea_nil (by decide)) ea_nil))
  refine par3_open (K := K) (P := P) (w := w) ?_
  refine eItem O _ σ2 H2 A2 _ fun v H3 e3 h3 => ⟨by show 1 ≤ sizeLine; decide, fun p hp => fun a ha => ?_⟩
  have A2' := A2.mono e3
  have A3 := A2'.own (o := .lst [v]) hp
  have fp := Fr.new A2' hp
  have hpO : p ∉ O := A2'.fresh hp
  have w3 : Ow (p :: O) (upd H3 p (.lst [v])) p [eIt Ns []] := ⟨[v], upd_same, by rw [cut_new hp]; exact .cons h3 .nil⟩
  have A4 := A3.own (o := rawD P w a []) ha
  have fa := Fr.new A3 ha
  have w4 := w3.own (o := rawD P w a []) ha
  have hpa : p ≠ a := ne_of_none upd_same ha
  refine eKey _ _ σ2 _ A4 _ fun u H5 e5 h5 => ⟨rfl, e5 _ _ upd_same, _, key_form _, (h5.mono (SL.of cut_same)).dp, fun u' hd5 => ⟨_, _, _, rfl, ?_⟩⟩
  have A5 := A4.mono e5
  have mvA : ∀ {Bs : List (List Addr × Hp)} {σ : L2.St} {H : Hp} {Γ : List Slv} {u' : HO}, Fr Bs a → Ats (a :: p :: O) Bs σ H Γ → Ats (a :: p :: O) Bs σ (upd H a u') Γ := fun {Bs σ H Γ u'} fa A => A.moved (U := [a]) (fun b o hb h => by
    rw [upd_ne (fun z => hb (by rw [z]; exact List.mem_singleton.mpr rfl))]
    exact h) (fun b hb => by rw [List.mem_singleton.mp hb]; exact List.mem_cons_self) (fun b hb => by rw [List.mem_singleton.mp hb, upd_same]; exact fun z => by cases z) (fun q hq b hb => by rw [List.mem_singleton.mp hb]; exact fa q hq)
  have mvW : ∀ {H : Hp} {ds : List PyData} {u' : HO}, Ow (a :: p :: O) H p ds → Ow (a :: p :: O) (upd H a u') p ds := fun {H ds u'} h => h.moved (U := [a]) (fun b o hb h => by
    rw [upd_ne (fun z => hb (by rw [z]; exact List.mem_singleton.mpr rfl))]
    exact h) (fun b hb => by rw [List.mem_singleton.mp hb]; exact List.mem_cons_self) (fun z => hpa (List.mem_singleton.mp z))
  have A6 : Ats (a :: p :: O) [([], H)] (((σ2.set 4 (some (.ref p))).set 5 (some (.ref a))).set 6 (some (.int 0))) (upd H5 a u') (gT (.int (W : Int)) x (.tuple (Ns.map eNm)) p a 0 (.dat (eRows (rowsOf Ns []))) .unk .unk .unk .unk .unk) := (((mvA fa A5).setA (i := 4) (a := p)).setA (i := 5) (a := a)).set (i := 6) (d := .int 0) (.int 0)
  have w6 : Hst P w K (a :: p :: O) p a Ns (upd H5 a u') [[]] := ⟨mvW (w4.mono e5), hd5⟩
  clear A5 A4 A3 A2' w4 w3 h5 h3 A2 A1
  -- the search
  refine s_seq (s_whileO (fun x' : List Tx × Nat × Slv × Slv × Slv × Slv × Slv × Slv => gT (.int (W : Int)) x (.tuple (Ns.map eNm)) p a x'.2.1 x'.2.2.1 x'.2.2.2.1 x'.2.2.2.2.1 x'.2.2.2.2.2.1 x'.2.2.2.2.2.2.1 x'.2.2.2.2.2.2.2) (fun x' => decide (x'.2.1 < x'.1.length)) (fun x' => 2 * W ^ costs Ns - x'.2.1) (fun x' H' => Bg W Ns x'.1 x'.2.1 1 ∧ Hst P w K (a :: p :: O) p a Ns H' x'.1) (fun x' H1 H2 e h => ⟨h.1, h.2.same e⟩)
    ([[]], 0, .dat (eRows (rowsOf Ns [])), .unk, .unk, .unk, .unk, .unk) ⟨Bg.init W Ns, w6⟩ A6 ?_ ?_ ?_)
  · rintro ⟨ts, t, x3, x7, x8, x9, x10, x11⟩ σ7 H7 ⟨hB, hH⟩ A7
    have hl := eh_lenO (K := K) A7 (i := 4) rfl hH.1
    rw [List.length_map] at hl
    have := th_test (eh_op A7.dom (od_lt (t : Int) (ts.length : Int)) (eh_of (ee_var (i := 6) rfl) A7) hl)
    rw [show decide ((t : Int) < (ts.length : Int)) = decide (t < ts.length) by simp] at this
    exact this
  · rintro ⟨ts, t, x3, x7, x8, x9, x10, x11⟩ σ7 H7 ⟨hB, hH⟩ hb A7
    have htl : t < ts.length := of_decide_eq_true hb
    obtain ⟨v, hv⟩ : ∃ v, ts[t]? = some v := ⟨_, List.getElem?_eq_getElem htl⟩
    have hvl : v.length ≤ 100 := Nat.le_trans (hB.b.sh v (List.mem_of_getElem? hv)) hN.cost
    refine s_seq (s_asgH [3, 7, 6] (eh_tup2 A7.dom (eh_ixO (j := t) A7 (i := 4) rfl hH.1 (eh_of (ee_var rfl) A7) (d := eIt Ns v) (by rw [List.getElem?_map, hv]; rfl)) (eh_of (ee_succ (ee_var rfl)) A7)) A7 (gt_tup (gts_cons (gt_tup (gts_cons (gt_name (by decide)) (gts_cons (gt_name (by decide)) gts_nil)) rfl) (gts_cons (gt_name (by decide)) gts_nil)) rfl) fun σ8 H8 e8 A8 => ?_)
    have hH8 := hH.same e8
    have hrl : (rgD 1 ((W : Int) + 1 - 1).toNat).length = W := by rw [rgD_len]; omega
    refine s_forO (ei_rng2 (ea_cons (ee_int 1) (ea_cons (ee_op (od_addI _ _) (ee_var rfl) (ee_int 1)) ea_nil)) (by have := hN.W3; omega)) A8 (fun i Γ' H' => ∃ ts x8 x9 x10 x11, Γ' = gT (.int (W : Int)) x (.tuple (Ns.map eNm)) p a (t + 1) (.dat (eRows (rowsOf Ns v))) (.dat (eTx v)) x8 x9 x10 x11 ∧ Bg W Ns ts t (i + 1) ∧ ts[t]? = some v ∧ Hst P w K (a :: p :: O) p a Ns H' ts)
      (fun i Γ' H1 H2 e ⟨ts, x8, x9, x10, x11, h1, h2, h3, h4⟩ => ⟨ts, x8, x9, x10, x11, h1, h2, h3, h4.same e⟩) ⟨ts, x8, x9, x10, x11, rfl, hB, hv, hH8⟩ ?_ ?_
    · rintro i d Γ' Bs' σ9 H9 hd ⟨ts, x8, x9, x10, x11, rfl, hB, hv, hH⟩ hBs hF A9 xv hxv
      have hi : i < W := by
        have := (List.getElem?_eq_some_iff.mp hd).1
        rw [hrl] at this
        exact this
      have hd' : d = .int ((i + 1 : Nat) : Int) := by
        unfold rgD at hd
        rw [List.getElem?_map, List.getElem?_range (by omega)] at hd
        cases hd
        show PyData.int (1 + (i : Int)) = _
        rw [Int.add_comm]
        rfl
      subst hd'
      have fp' : Fr Bs' p := hF p (List.mem_cons_of_mem _ List.mem_cons_self) fp
      have fa' : Fr Bs' a := hF a List.mem_cons_self fa
      refine g_at (vs := [8]) (gt_name (by decide)) A9 hxv fun σ10 A10 => ?_
      -- later, more, form
      refine s_seq (s_setE (d := eTx (v ++ [((i + 1 : Nat) : Int)])) (ee_sc (ee_tup (ea_starT (ee_var rfl) (ea_cons (ee_var rfl) ea_nil)) (by rw [List.length_append, List.length_map, List.length_singleton]; omega)) (by unfold eTx; rw [List.map_append]; rfl)) A10 fun σ11 H11 e11 A11 => ?_)
      have hmore : EE _ _ (eRows (rowsOf Ns (v ++ [((i + 1 : Nat) : Int)]))) := ee_sc (ee_cb (cd_tupL (K := K)) (ea_cons (ee_lcY (te := tCall (FD R_grown) [] E0 (tCons (tVar 12) (tCons (tVar 13) (tCons (tVar 8) (tCons (tCB (fun xs H Q => ∃ p ys, xs = [.ref p] ∧ (SqL K H p ys ∨ SqT K H p ys) ∧ Q (.int ys.length) H) (tCons (tVar 9) tNil)) tNil))))) (wi := RZ.iZipA K (tCons (tVar 2) (tCons (tVar 3) tNil))) (g := gTup K 2 (gCons (gName 12) (gCons (gName 13) gNil))) (vs := [12, 13]) (Γ := gT (.int (W : Int)) x (.tuple (Ns.map eNm)) p a (t + 1) (.dat (eRows (rowsOf Ns v))) (.dat (eTx v)) (.dat (.int ((i + 1 : Nat) : Int))) (.dat (eTx (v ++ [((i + 1 : Nat) : Int)]))) x10 x11) Ns (fun N => pairD (eNm N) (eRw (rowOf N v))) (fun N => eRw (grown N (rowOf N v) ((i + 1 : Nat) : Int) (v.length + 1)))
        (fun N => [.dat (.int (W : Int)), .dat x, .dat (.tuple (Ns.map eNm)), .dat (eRows (rowsOf Ns v)), .adr p, .adr a, .dat (.int ((t + 1 : Nat) : Int)), .dat (eTx v), .dat (.int ((i + 1 : Nat) : Int)), .dat (eTx (v ++ [((i + 1 : Nat) : Int)])), x10, x11, .dat (eNm N), .dat (eRw (rowOf N v))])
        (by rw [← zip_rows]; exact ei_zipT (ea_cons (ee_var rfl) (ea_cons (ee_var rfl) ea_nil))) hNs (fun N h => gt_tup (gts_cons (gt_name (by decide)) (gts_cons (gt_name (by decide)) gts_nil)) rfl)
        (fun N h => ee_call (FD.pd ⟨N, rowOf N v, _, v.length + 1, rfl, rowOk_of (hN.ne N h) v, hN.len N h, rfl⟩) (ea_cons (ee_var rfl) (ea_cons (ee_var rfl) (ea_cons (ee_var rfl) (ea_cons (ee_sc (ee_lenX (ee_var rfl)) (by rw [List.length_append]; rfl)) ea_nil)))))) ea_nil)) (rows_more Ns v _).symm
      refine s_seq (s_setE hmore A11 fun σ12 H12 e12 A12 => ?_)
      refine s_seq (s_setE (ee_call (FD.pd (hmx (v ++ [((i + 1 : Nat) : Int)]) (by rw [List.length_append]; show v.length + 1 ≤ 999; omega)).2) (ea_cons (ee_var rfl) (ea_cons (ee_var rfl) ea_nil))) A12 fun σ13 H13 e13 A13 => ?_)
      have hH13 := hH.same (e11.trans (e12.trans e13))
      obtain ⟨xf, hxf, hDf⟩ := A13.val 11 _ rfl
      dsimp only
      refine s_ifH (b := !decide (form Ns (v ++ [((i + 1 : Nat) : Int)]) ∈ ts.map (form Ns))) ?_ A13 (fun h H14 e14 A14 => ?_) (fun h H14 e14 A14 => ?_)
      · refine fun Q q => ⟨xf, hxf, _, A13.adr 5 a rfl, a, _, _, rfl, hH13.2, key_form _, (hDf.mono (SL.of cut_same)).dp, _, rfl, ?_⟩
        rw [show decide (nk (eForm (form Ns (v ++ [((i + 1 : Nat) : Int)]))) ∈ (ts.map fun t => eForm (form Ns t)).map nk) = decide (form Ns (v ++ [((i + 1 : Nat) : Int)]) ∈ ts.map (form Ns)) from decide_eq_decide.mpr mem_form]
        exact q _ (Same.refl _)
      · have hnot : form Ns (v ++ [((i + 1 : Nat) : Int)]) ∉ ts.map (form Ns) := fun z => by rw [decide_eq_true z] at h; cases h
        have hH14 := hH13.same e14
        have hsz := hB.size hN.W2
        have hsz2 := hN.size
        refine s_seq ⟨_, A14.adr 5 a rfl, _, hxf, a, _, _, rfl, rfl, hH14.2, ?_, key_form _, ((hDf.mono (SL.of (cut_mono e14))).mono (SL.of cut_same)).dp, fun z => hnot (mem_form.mp z), fun u' hd' => ?_⟩
        · rw [List.length_map, sizeLine_eq]; omega
        · have A15 := mvA (u' := u') fa' A14
          have w15 := mvW (u' := u') hH14.1
          refine s_app (p := p) (i := 4) (d := eIt Ns (v ++ [((i + 1 : Nat) : Int)])) rfl (ee_tup (ea_cons (ee_var rfl) (ea_cons (ee_var rfl) ea_nil)) (by show 2 ≤ 1000; decide)) A15 (List.mem_cons_of_mem _ List.mem_cons_self) fp' w15 (by rw [List.length_map]; omega) fun H16 e16 A16 w16 => ⟨_, ⟨ts ++ [v ++ [((i + 1 : Nat) : Int)]], _, _, _, _, rfl, hB.new hN.ne (by omega) (by omega) hv hnot, ?_, ?_, ?_⟩, A16⟩
          · rw [List.getElem?_append_left (List.getElem?_eq_some_iff.mp hv).1]; exact hv
          · rw [List.map_append]; exact w16
          · rw [List.map_append]
            obtain ⟨xs15, hp15, _⟩ := w15
            obtain ⟨ys, hy1, hy2, hy3⟩ := hd'
            exact DSet.of ⟨ys, hy1, hy2, hy3⟩ (tst_of hp15 e16) (by rw [e16 a _ (fun z => hpa (List.mem_singleton.mp z).symm) hy1, hy1])
      · have hin : form Ns (v ++ [((i + 1 : Nat) : Int)]) ∈ ts.map (form Ns) := by
          by_cases c : form Ns (v ++ [((i + 1 : Nat) : Int)]) ∈ ts.map (form Ns)
          · exact c
          · rw [decide_eq_false c] at h; cases h
        exact ⟨_, ⟨ts, _, _, _, _, rfl, hB.old hv hin, hv, hH13.same e14⟩, A14⟩
    · rintro Γ' σ9 H9 ⟨ts, x8, x9, x10, x11, rfl, hB, hv, hH⟩ A9
      rw [hrl] at hB
      refine ⟨(ts, t + 1, .dat (eRows (rowsOf Ns v)), .dat (eTx v), x8, x9, x10, x11), ⟨hB.turn hv, hH⟩, ?_, A9⟩
      have := hB.size hN.W2
      have := (List.getElem?_eq_some_iff.mp hv).1
      show 2 * W ^ costs Ns - (t + 1) < 2 * W ^ costs Ns - t
      omega
  · rintro ⟨ts, t, x3, x7, x8, x9, x10, x11⟩ σ7 H7 ⟨hB, hH⟩ hb A7
    have htl : ts.length ≤ t := by have := of_decide_eq_false hb; simp only at this; omega
    have hB' : Bg W Ns ts t 1 := hB
    have hT : IsTold W Ns ts := hB'.done hN.ne htl
    have hts : ts = told W Ns := hT.eq hN.ne hN.W2
    have hsz : ts.length < 2 * W ^ costs Ns := hB'.size hN.W2
    have hsz2 := hN.size
    have A8 := A7.disown
    have A9 := A8.freeze (i := 4) hpO rfl hH.1.less
    refine s_retQ (H0 := H) (ee_lcY ts (eIt Ns) (fun t => .tuple [eTx t, .tuple (Ns.map fun N => .int (named N t : Nat))]) (fun u => [.dat (.int (W : Int)), .dat x, .dat (.tuple (Ns.map eNm)), .dat (eRows (rowsOf Ns u)), .dat (.list (ts.map (eIt Ns))), .adr a, .dat (.int (t : Int)), .dat (eTx u), x8, x9, x10, x11, .unk, .unk]) (ei_list (ee_var rfl)) (by omega) (fun u h => gt_tup (gts_cons (gt_name (by decide)) (gts_cons (gt_name (by decide)) gts_nil)) rfl) (fun u hu => ?_)) A9 (by simp) ?_
    · refine ee_tup (ea_cons (ee_var rfl) (ea_cons (ee_cb cd_tupL (ea_cons (ee_lcY Ns (fun N => pairD (eNm N) (eRw (rowOf N u))) (fun N => .int (named N u : Nat)) (fun N => [.dat (.int (W : Int)), .dat x, .dat (.tuple (Ns.map eNm)), .dat (eRows (rowsOf Ns u)), .dat (.list (ts.map (eIt Ns))), .adr a, .dat (.int (t : Int)), .dat (eTx u), x8, x9, x10, x11, .dat (eNm N), .dat (eRw (rowOf N u))])
        (by rw [← zip_rows]; exact ei_zipT (ea_cons (ee_var rfl) (ea_cons (ee_var rfl) ea_nil))) hNs (fun N h => gt_tup (gts_cons (gt_name (by decide)) (gts_cons (gt_name (by decide)) gts_nil)) rfl) (fun N h => ee_sc (ee_call (FD.pd ⟨N, rowOf N u, u.length, rfl, hN.ne N h, rowOk_of (hN.ne N h) u, rfl⟩) (ea_cons (ee_var rfl) (ea_cons (ee_var rfl) (ea_cons (ee_lenX (ee_var rfl)) ea_nil)))) (by rw [ended_named N (hN.ne N h)]))) ea_nil)) ea_nil)) (by show 2 ≤ 1000; decide)
    · show ∀ v H2, Same H H2 → Da (cut O H2) v (eTold Ns ts) → Q v H2
      rw [hts]
      exact k
end
end Nx
set_option maxHeartbeats 4000000
/-! the program's defs, 7: what is asked of namings -/
namespace Nx
open PySem PySem.Spec PyProof.Rows L2
/-! ### what a naming names stands in the text or at its ends -/
theorem ask_le {w : Tx} {pr : Pr} {p : Nat} (h : p ≤ w.length + 1) : ask w pr p ≤ w.length + 1 := by
  unfold ask
  cases pr.1 with
  | true =>
    cases h2 : nextIn w pr.2 p with
    | none => exact Nat.le_refl _
    | some q => have := (nextIn_le h2).2.1; show q ≤ _; omega
  | false => have := lastIn_le w pr.2 p; show lastIn w pr.2 p ≤ _; omega
theorem goes_le {w : Tx} : ∀ (r : List Pr) (p : Nat), p ≤ w.length + 1 → goes w r p ≤ w.length + 1
  | [], _, h => h
  | pr :: r, p, h => goes_le r _ (ask_le h)
theorem named_le (N : Nm) (w : Tx) : named N w ≤ w.length + 1 := by
  refine goes_le N _ ?_
  unfold begP
  split
  · exact Nat.zero_le _
  · exact Nat.le_refl _
/-! ### words -/
def wd (a b : Nat) : Str := if a < b then "ahead" else if a = b then "same" else "behind"
def ordW (ws : List Str) : PyData := match ws with
  | [] => .none
  | w0 :: r => if (w0 :: r).all (fun x => decide (x = w0)) then .str w0 else .none
noncomputable def ordD (W : Nat) (N1 N2 : Nm) : PyData := ordW ((told W [N1, N2]).map fun t => wd (named N1 t) (named N2 t))
theorem ordW_sc (ws : List Str) : isSc (ordW ws) = true := by
  unfold ordW
  cases ws with
  | nil => rfl
  | cons a r => dsimp only; split <;> rfl
theorem ordW_scal (ws : List Str) (x : Str) : scal (vOf (ordW ws)) (.str x) = true := by
  unfold ordW
  cases ws with
  | nil => rfl
  | cons a r => dsimp only; split <;> rfl
theorem find_at {α : Type} (p : α → Bool) : ∀ (l : List α) (i : Nat) (x : α), l[i]? = some x → (∀ j y, j < i → l[j]? = some y → p y = false) → p x = true → (l.filter p).head? = some x
  | [], i, x, h, _, _ => by simp at h
  | a :: l, 0, x, h, _, hx => by
    cases h
    rw [List.filter_cons, hx]
    rfl
  | a :: l, i + 1, x, h, hn, hx => by
    have ha := hn 0 a (Nat.succ_pos i) rfl
    rw [List.filter_cons, ha]
    simp only [Bool.false_eq_true, if_false]
    exact find_at p l i x h (fun j y hj hy => hn (j + 1) y (Nat.succ_lt_succ hj) hy) hx
theorem find_no {α : Type} (p : α → Bool) (l : List α) (h : ∀ (j : Nat) y, j < l.length → l[j]? = some y → p y = false) : (l.filter p).head? = none := by
  rw [List.head?_eq_none_iff, List.filter_eq_nil_iff]
  intro x hx hp
  obtain ⟨j, hj⟩ := List.getElem?_of_mem hx
  rw [h j x (List.getElem?_eq_some_iff.mp hj).1 hj] at hp
  cases hp
theorem eStand_sc (s : Sum Int Bool) : isSc (eStand s) = true := by
  obtain a | b := s
  · rfl
  · cases b <;> rfl
theorem eStand_scal (s t : Sum Int Bool) : scal (vOf (eStand s)) (vOf (eStand t)) = true := by
  obtain a | a := s <;> obtain b | b := t
  · rfl
  · cases b <;> rfl
  · cases a <;> rfl
  · cases a <;> cases b <;> rfl
theorem eStand_eqV (s t : Sum Int Bool) : eqV (vOf (eStand s)) (vOf (eStand t)) = decide (s = t) := by
  obtain a | a := s <;> obtain b | b := t
  · show (a == b) = _
    by_cases h : a = b
    · subst h; simp
    · simp [h]
  · cases b <;> simp [eStand, vOf, eqV]
  · cases a <;> simp [eStand, vOf, eqV]
  · cases a <;> cases b <;> first | rfl | (simp only [eStand, vOf, eqV]; decide)
theorem eStand_eq (s t : Sum Int Bool) : decide (vOf (eStand s) = vOf (eStand t)) = decide (s = t) := by
  obtain a | a := s <;> obtain b | b := t
  · show decide (V.int a = V.int b) = _
    simp
  · cases b <;> simp [eStand, vOf]
  · cases a <;> simp [eStand, vOf]
  · cases a <;> cases b <;> first | rfl | (simp only [eStand, vOf]; decide)
def memS (s : Sum Int Bool) (l : List (Sum Int Bool)) : Bool := l.any fun x => decide (x = s)
theorem inV_stand (s : Sum Int Bool) : ∀ l : List (Sum Int Bool), inV (vOf (eStand s)) ((l.map eStand).map vOf) = memS s l
  | [] => rfl
  | a :: l => by
    have ih := inV_stand s l
    unfold inV at ih ⊢
    rw [List.map_cons, List.map_cons, List.any_cons, ih, eStand_eqV]
    rfl
theorem stands_sc (l : List (Sum Int Bool)) : (l.map eStand).all isSc = true := by
  rw [List.all_map, List.all_eq_true]
  intro s _
  exact eStand_sc s
def kindsOf (W : Nat) : List (Sum Int Bool) := (List.range' 1 W).map (fun n : Nat => Sum.inl (n : Int)) ++ [.inr true, .inr false]
noncomputable def thereD (W : Nat) (N : Nm) : PyData := .tuple (((kindsOf W).filter fun s => memS s ((told W [N]).map fun t => stand t (named N t))).map eStand)
theorem kinds_data (W : Nat) : rgD 1 W ++ [.str "back", .str "front"] = (kindsOf W).map eStand := by
  unfold kindsOf rgD
  rw [List.map_append, List.map_map, List.range'_eq_map_range, List.map_map]
  congr 1
theorem tree_tup2 {n : Nat} {x y : PyData} (hx : tree n x) (hy : tree n y) : tree (n + 1) (.tuple [x, y]) := ⟨by show 2 ≤ 1000; decide, fun d hd => by
  rcases List.mem_cons.mp hd with e | hd
  · rw [e]; exact hx
  · rw [List.mem_singleton.mp hd]; exact hy⟩
theorem tree_tup1 {n : Nat} {x : PyData} (hx : tree n x) : tree (n + 1) (.tuple [x]) := ⟨by show 1 ≤ 1000; decide, fun d hd => by rw [List.mem_singleton.mp hd]; exact hx⟩
/-- x is a naming, of tuples or lists -/
structure NmD (x : PyData) (N : Nm) : Prop where
  t : tree 4 x
  e : tupD 4 x = eNm N
theorem told_two {W : Nat} {x y : PyData} {N1 N2 : Nm} (h1 : NmD x N1) (h2 : NmD y N2) (hN : NsOk W [N1, N2]) : R_told [.int (W : Int), .tuple [x, y]] (eTold [N1, N2] (told W [N1, N2])) :=
  ⟨W, [N1, N2], .tuple [x, y], rfl, tree_tup2 h1.t h2.t, by show PyData.tuple [tupD 4 x, tupD 4 y] = _; rw [h1.e, h2.e]; rfl, hN, rfl⟩
theorem told_one {W : Nat} {x : PyData} {N : Nm} (h1 : NmD x N) (hN : NsOk W [N]) : R_told [.int (W : Int), .tuple [x]] (eTold [N] (told W [N])) :=
  ⟨W, [N], .tuple [x], rfl, tree_tup1 h1.t, by show PyData.tuple [tupD 4 x] = _; rw [h1.e]; rfl, hN, rfl⟩
noncomputable def unlD (W : Nat) (N1 N2 : Nm) : Option PyData := ((told W [N1, N2]).filter fun t => !decide (named N1 t = named N2 t)).head?.map eTx
noncomputable def withD (W : Nat) (N : Nm) (s : Sum Int Bool) : Option PyData := ((told W [N]).filter fun t => decide (stand t (named N t) = s)).head?.map eTx
section
variable {P : Program} {w : World} {K : PySem.W.Frag} {mg : Str → Option Value} {base : Heap}
/-! ### order_of, are_one -/
def R_order_of (ds : List PyData) (d : PyData) : Prop := ∃ (W : Nat) (x y : PyData) (N1 N2 : Nm), ds = [.int (W : Int), x, y] ∧ NmD x N1 ∧ NmD y N2 ∧ NsOk W [N1, N2] ∧ d = ordD W N1 N2
theorem ok_order_of {f : Addr} {fd : FuncData} (B : Bl mg) {f_told_by_texts : Addr} {fd_told_by_texts : FuncData} (C_told_by_texts : Cl K mg "told_by_texts" f_told_by_texts fd_told_by_texts ["wide", "namings"]) (G_told_by_texts : FnOk P w K mg base CX0 23 f_told_by_texts fd_told_by_texts ["wide", "namings"] (FD R_told)) (F : Fun K "order_of" "order_of" s_order_of f fd) : FnOk P w K mg base CX0 24 f fd ["wide", "one", "other"] (FD R_order_of) := by
  refine ok_fd F sc_order_of (fun ds d ⟨_, _, _, _, _, h, _⟩ => by rw [h]; rfl) (fun cdv A outer s H E hr => ⟨_, (pss_cons (ps_set (i := 3) sc_order_of.nd rfl (.inr rfl) (pe_lst pa_nil))
      (pss_cons (ps_for PassesOwn.never rfl (pi_listK (K := K) rfl (pe_call G_told_by_texts (hr.mono (by first | decide | exact Nat.le_refl _ | omega)) (by rfl) C_told_by_texts.g C_told_by_texts.k C_told_by_texts.b .nil pass0 (pa_cons (pv 0) (pa_cons (pe_tup (pa_cons (pv 1) (pa_cons (pv 2) pa_nil))) pa_nil)))) (pg_tupK (K := K) (n := 2) rfl rfl (pgs_cons (pg_name (i := 4) sc_order_of.nd rfl (.inl rfl)) (pgs_cons (pg_tupK (K := K) (n := 2) rfl rfl (pgs_cons (pg_name (i := 5) sc_order_of.nd rfl (.inl rfl)) (pgs_cons (pg_name (i := 6) sc_order_of.nd rfl (.inl rfl)) pgs_nil))) pgs_nil))) (pss_one (ps_expr (pe_bmK (K := K) rfl PySem.F.plainAttrs_list PySem.F.slot_list_append PySem.F.type_list_append mt_append (pv 3) (pa_cons (pe_ifExp (pt_cmpR op_lt (pv 5) (pv 6) (nomark _)) pe_str (pe_ifExp (pt_cmpR op_eq (pv 5) (pv 6) (nomark _)) pe_str pe_str)) pa_nil)))))
      (pss_one (ps_ret (pe_ifExp (pt_val (pe_callB (all_K (K := K) rfl rfl) (by rfl) B.all (by decide +kernel) (pa_cons (pe_lc (own := [("word", 7)]) rfl sc_order_of.nd (pi_listK (K := K) rfl (pv 3)) (blkOk_by (N := ["wide", "one", "other", "words", "_", "near", "far", "word"]) (sc := (defScope s_order_of)) (by decide +kernel)) (fun _ _ _ _ _ => (pg_name (i := 7) sc_order_of.nd rfl (.inl rfl))) (fun _ _ _ _ _ => pts_nil) (fun _ _ _ _ _ => (pe_cmpR op_eq (pv 7) (pe_ix (ix_seqK (K := K) rfl) (pv 3) pe_int (fun _ _ => rfl)) (nomark _)))) pa_nil))) (pe_ix (ix_seqK (K := K) rfl) (pv 3) pe_int (fun _ _ => rfl)) pe_non))))), ?_⟩)
  rintro O H ds d σ Q ⟨W, x, y, N1, N2, rfl, hx, hy, hN, rfl⟩ A k
  have hT := told_is hN.ne hN.W2
  have hsz : (told W [N1, N2]).length < 2 * W ^ costs [N1, N2] := hT.size hN.W2
  have hsz2 := hN.size
  refine s_seq (s_newL A fun p σ1 H1 hp fp A1 w1 => ?_)
  refine s_seq (s_forO (ds := (told W [N1, N2]).map fun t => .tuple [eTx t, .tuple ([N1, N2].map fun N => .int (named N t : Nat))]) (ei_list (ee_call (FD.pd (told_two hx hy hN)) (ea_cons (ee_var rfl) (ea_cons (ee_tup (ea_cons (ee_var rfl) (ea_cons (ee_var rfl) ea_nil)) (by show 2 ≤ 1000; decide)) ea_nil)))) A1
    (fun i Γ' H' => (∃ x4 x5 x6, Γ' = [.dat (.int (W : Int)), .dat x, .dat y, .adr p, x4, x5, x6, .unk]) ∧ Ow (p :: O) H' p (((told W [N1, N2]).map fun t => PyData.str (wd (named N1 t) (named N2 t))).take i)) (fun i Γ' H2 H3 e h => ⟨h.1, h.2.mono e⟩) ⟨⟨_, _, _, rfl⟩, by rw [List.take_zero]; exact w1⟩ ?_ ?_)
  · rintro i d Γ' Bs' σ2 H2 hd ⟨⟨x4, x5, x6, rfl⟩, w2⟩ hB hF A2 v hv
    rw [List.getElem?_map] at hd
    cases ht : (told W [N1, N2])[i]? with
    | none => rw [ht] at hd; cases hd
    | some t =>
      rw [ht] at hd
      cases hd
      have hi := (List.getElem?_eq_some_iff.mp ht).1
      refine g_at (vs := [4, 5, 6]) (gt_tup (gts_cons (gt_name (by decide)) (gts_cons (gt_tup (gts_cons (gt_name (by decide)) (gts_cons (gt_name (by decide)) gts_nil)) rfl) gts_nil)) rfl) A2 hv fun σ3 A3 => ?_
      refine s_app (p := p) (i := 3) (d := .str (wd (named N1 t) (named N2 t))) rfl (ee_if (b := decide (named N1 t < named N2 t)) (et_ltN (ee_var rfl) (ee_var rfl)) (fun h => ?_) (fun h => ee_if (b := decide (named N1 t = named N2 t)) (et_eqN (ee_var rfl) (ee_var rfl)) (fun h2 => ?_) (fun h2 => ?_))) A3 List.mem_cons_self (hF p List.mem_cons_self fp) w2 (by rw [List.length_take, List.length_map]; omega) fun H4 e4 A4 w4 => ⟨_, ⟨⟨_, _, _, rfl⟩, ?_⟩, A4⟩
      · unfold wd; rw [if_pos (of_decide_eq_true h)]; exact ee_str _
      · unfold wd; rw [if_neg (of_decide_eq_false h), if_pos (of_decide_eq_true h2)]; exact ee_str _
      · unfold wd; rw [if_neg (of_decide_eq_false h), if_neg (of_decide_eq_false h2)]; exact ee_str _
      · rw [take_snoc (x := PyData.str (wd (named N1 t) (named N2 t))) (by rw [List.getElem?_map, ht]; rfl)]; exact w4
  · rintro Γ' σ2 H2 ⟨⟨x4, x5, x6, rfl⟩, w2⟩ A2
    rw [List.length_map, List.take_of_length_le (by rw [List.length_map]; exact Nat.le_refl _)] at w2
    have A3 := A2.freeze (i := 3) hp rfl w2
    obtain ⟨t0, r, hr0⟩ : ∃ t0 r, told W [N1, N2] = t0 :: r := by
      cases h : told W [N1, N2] with
      | nil => have := hT.t.first; rw [h] at this; cases this
      | cons a r => exact ⟨a, r, rfl⟩
    have h0 : ((told W [N1, N2]).map fun t => PyData.str (wd (named N1 t) (named N2 t)))[0]? = some (.str (wd (named N1 t0) (named N2 t0))) := by rw [hr0]; rfl
    refine s_retQ (H0 := H) (ee_if (b := ((told W [N1, N2]).map fun t => decide (wd (named N1 t) (named N2 t) = wd (named N1 t0) (named N2 t0))).all id) (et_B (ee_cb cd_all (ea_cons (ee_sc (ee_lcY (told W [N1, N2]) (fun t => .str (wd (named N1 t) (named N2 t))) (fun t => .bool (decide (wd (named N1 t) (named N2 t) = wd (named N1 t0) (named N2 t0)))) (fun t => [.dat (.int (W : Int)), .dat x, .dat y, .dat (.list ((told W [N1, N2]).map fun t => .str (wd (named N1 t) (named N2 t)))), x4, x5, x6, .dat (.str (wd (named N1 t) (named N2 t)))]) (ei_list (ee_var rfl)) (by omega) (fun t h => gt_name (by decide))
      (fun t h => ee_op (od_eqS _ _) (ee_var rfl) (ee_op (od_ix_l (j := 0) h0) (ee_var rfl) (ee_int 0)))) (by rw [List.map_map]; rfl)) ea_nil))) (fun h => ?_) (fun h => ?_)) A3 (by simp) k
    · have e : ordD W N1 N2 = .str (wd (named N1 t0) (named N2 t0)) := by
        unfold ordD ordW
        rw [hr0] at h ⊢
        rw [List.map_cons]
        dsimp only
        rw [if_pos]
        rw [List.all_map] at h
        rw [← List.map_cons (f := fun t => wd (named N1 t) (named N2 t)), List.all_map]
        exact h
      rw [e]
      exact ee_op (od_ix_l (j := 0) h0) (ee_var rfl) (ee_int 0)
    · have e : ordD W N1 N2 = .none := by
        unfold ordD ordW
        rw [hr0] at h ⊢
        rw [List.map_cons]
        dsimp only
        rw [if_neg]
        rw [List.all_map] at h
        rw [← List.map_cons (f := fun t => wd (named N1 t) (named N2 t)), List.all_map]
        intro z
        have z' : ((t0 :: r).all (id ∘ fun t => decide (wd (named N1 t) (named N2 t) = wd (named N1 t0) (named N2 t0)))) = true := z
        rw [h] at z'
        cases z'
      rw [e]
      exact ee_non
noncomputable def oneB (W : Nat) (N1 N2 : Nm) : Bool := decide (vOf (ordD W N1 N2) = .str "same")
def R_are_one (ds : List PyData) (d : PyData) : Prop := ∃ (W : Nat) (x y : PyData) (N1 N2 : Nm), ds = [.int (W : Int), x, y] ∧ NmD x N1 ∧ NmD y N2 ∧ NsOk W [N1, N2] ∧ d = .bool (oneB W N1 N2)
theorem ok_are_one {f : Addr} {fd : FuncData} (B : Bl mg) {f_order_of : Addr} {fd_order_of : FuncData} (C_order_of : Cl K mg "order_of" f_order_of fd_order_of ["wide", "one", "other"]) (G_order_of : FnOk P w K mg base CX0 24 f_order_of fd_order_of ["wide", "one", "other"] (FD R_order_of)) (F : Fun K "are_one" "are_one" s_are_one f fd) : FnOk P w K mg base CX0 25 f fd ["wide", "one", "other"] (FD R_are_one) := by
  refine ok_fd F sc_are_one (fun ds d ⟨_, _, _, _, _, h, _⟩ => by rw [h]; rfl) (fun cdv A outer s H E hr => ⟨_, (pss_one (ps_ret (pe_cmpR op_eq (pe_call G_order_of (hr.mono (by first | decide | exact Nat.le_refl _ | omega)) (by rfl) C_order_of.g C_order_of.k C_order_of.b .nil pass0 (pa_cons (pv 0) (pa_cons (pv 1) (pa_cons (pv 2) pa_nil)))) pe_str (nomark _)))), ?_⟩)
  rintro O H ds d σ Q ⟨W, x, y, N1, N2, rfl, hx, hy, hN, rfl⟩ A k
  exact s_ret (ee_op (od_eq (d2 := .str "same") (ordW_sc _) rfl (ordW_scal _ _)) (ee_call (FD.pd ⟨W, x, y, N1, N2, rfl, hx, hy, hN, rfl⟩) (ea_cons (ee_var rfl) (ea_cons (ee_var rfl) (ea_cons (ee_var rfl) ea_nil)))) (ee_str _)) A k
/-! ### unlike_named -/
def R_unlike_named (ds : List PyData) (d : Option PyData) : Prop := ∃ (W : Nat) (x y : PyData) (N1 N2 : Nm), ds = [.int (W : Int), x, y] ∧ NmD x N1 ∧ NmD y N2 ∧ NsOk W [N1, N2] ∧ d = unlD W N1 N2
theorem ok_unlike_named {f C : Addr} {fd : FuncData} (B : Bl mg) (CN : Cn K mg C) {f_told_by_texts : Addr} {fd_told_by_texts : FuncData} (C_told_by_texts : Cl K mg "told_by_texts" f_told_by_texts fd_told_by_texts ["wide", "namings"]) (G_told_by_texts : FnOk P w K mg base CX0 23 f_told_by_texts fd_told_by_texts ["wide", "namings"] (FD R_told)) (F : Fun K "unlike_named" "unlike_named" s_unlike_named f fd) : FnOk P w K mg base (L2.CX P w) 24 f fd ["wide", "one", "other"] (FX C R_unlike_named) := by
  refine ok_fx F sc_unlike_named (fun ds d ⟨_, _, _, _, _, h, _⟩ => by rw [h]; rfl) (fun cdv A outer s H E hr => ⟨_, (pss_cons (ps_for (passes_of rfl) rfl (pi_listK (K := K) rfl (pe_call G_told_by_texts (hr.mono (by first | decide | exact Nat.le_refl _ | omega)) (by rfl) C_told_by_texts.g C_told_by_texts.k C_told_by_texts.b .nil pass0 (pa_cons (pv 0) (pa_cons (pe_tup (pa_cons (pv 1) (pa_cons (pv 2) pa_nil))) pa_nil)))) (pg_tupK (K := K) (n := 2) rfl rfl (pgs_cons (pg_name (i := 3) sc_unlike_named.nd rfl (.inl rfl)) (pgs_cons (pg_tupK (K := K) (n := 2) rfl rfl (pgs_cons (pg_name (i := 4) sc_unlike_named.nd rfl (.inl rfl)) (pgs_cons (pg_name (i := 5) sc_unlike_named.nd rfl (.inl rfl)) pgs_nil))) pgs_nil))) (pss_one (ps_if (pt_cmpR op_ne (pv 4) (pv 5) (nomark _)) (pss_one (ps_ret (pv 3))) pss_nil)))
      (pss_one (ps_raise rfl (takes_of rfl rfl rfl rfl) (pmk_own0 PySem.F.excBase_ValueError CN.xP CN.gP CN.kP (raises_own CN.bP CN.tP) rfl)))), ?_⟩)
  rintro O H ds d σ Q ⟨W, x, y, N1, N2, rfl, hx, hy, hN, rfl⟩ A k ke
  refine s_seq (s_for (ds := (told W [N1, N2]).map fun t => .tuple [eTx t, .tuple ([N1, N2].map fun N => .int (named N t : Nat))]) (ei_list (ee_call (FD.pd (told_two hx hy hN)) (ea_cons (ee_var rfl) (ea_cons (ee_tup (ea_cons (ee_var rfl) (ea_cons (ee_var rfl) ea_nil)) (by show 2 ≤ 1000; decide)) ea_nil)))) A
    (fun i Γ' => (∃ x3 x4 x5, Γ' = [.dat (.int (W : Int)), .dat x, .dat y, x3, x4, x5]) ∧ ∀ j t, j < i → (told W [N1, N2])[j]? = some t → (!decide (named N1 t = named N2 t)) = false) ⟨⟨_, _, _, rfl⟩, fun j t hj => absurd hj (Nat.not_lt_zero j)⟩ ?_ ?_)
  · rintro i d Γ' Bs' σ2 H2 hd ⟨⟨x3, x4, x5, rfl⟩, hno⟩ hB A2 v hv
    rw [List.getElem?_map] at hd
    cases ht : (told W [N1, N2])[i]? with
    | none => rw [ht] at hd; cases hd
    | some t =>
      rw [ht] at hd
      cases hd
      refine g_at (vs := [3, 4, 5]) (gt_tup (gts_cons (gt_name (by decide)) (gts_cons (gt_tup (gts_cons (gt_name (by decide)) (gts_cons (gt_name (by decide)) gts_nil)) rfl) gts_nil)) rfl) A2 hv fun σ3 A3 => ?_
      refine s_if (b := !decide ((named N1 t : Int) = (named N2 t : Int))) (et_test (ee_op (od_neI _ _) (ee_var rfl) (ee_var rfl))) A3 (fun h H3 e3 A4 => ?_) (fun h H3 e3 A4 => ?_)
      · rw [show decide ((named N1 t : Int) = (named N2 t : Int)) = decide (named N1 t = named N2 t) by simp [Int.natCast_inj]] at h
        refine s_retQ (H0 := H) (d := eTx t) (ee_var rfl) A4 (hB _ (by simp)) (k (eTx t) ?_)
        unfold unlD
        rw [find_at _ _ i t ht hno h]
        rfl
      · rw [show decide ((named N1 t : Int) = (named N2 t : Int)) = decide (named N1 t = named N2 t) by simp [Int.natCast_inj]] at h
        refine ⟨_, ⟨⟨_, _, _, rfl⟩, fun j u hj hu => ?_⟩, A4⟩
        rcases Nat.lt_succ_iff_lt_or_eq.mp hj with c | c
        · exact hno j u c hu
        · rw [c, ht] at hu; rw [← Option.some.inj hu]; exact h
  · rintro Γ' σ2 H2 ⟨⟨x3, x4, x5, rfl⟩, hno⟩ A2
    rw [List.length_map] at hno
    refine ke ?_ H2 (A2.ex ([], H) (by simp)).same
    unfold unlD
    rw [find_no _ _ hno]
    rfl
/-! ### letters_there -/
def R_letters_there (ds : List PyData) (d : PyData) : Prop := ∃ (W : Nat) (x : PyData) (N : Nm), ds = [.int (W : Int), x] ∧ NmD x N ∧ NsOk W [N] ∧ d = thereD W N
theorem ok_letters_there {f : Addr} {fd : FuncData} (B : Bl mg) {f_told_by_texts : Addr} {fd_told_by_texts : FuncData} (C_told_by_texts : Cl K mg "told_by_texts" f_told_by_texts fd_told_by_texts ["wide", "namings"]) (G_told_by_texts : FnOk P w K mg base CX0 23 f_told_by_texts fd_told_by_texts ["wide", "namings"] (FD R_told)) {f_stands_at : Addr} {fd_stands_at : FuncData} (C_stands_at : Cl K mg "stands_at" f_stands_at fd_stands_at ["text", "place"]) (G_stands_at : FnOk P w K mg base CX0 3 f_stands_at fd_stands_at ["text", "place"] (FD R_stands_at)) (F : Fun K "letters_there" "letters_there" s_letters_there f fd) : FnOk P w K mg base CX0 24 f fd ["wide", "naming"] (FD R_letters_there) := by
  refine ok_fd F sc_letters_there (fun ds d ⟨_, _, _, h, _⟩ => by rw [h]; rfl) (fun cdv A outer s H E hr => ⟨_, (pss_cons (ps_set (i := 2) sc_letters_there.nd rfl (.inr rfl) (pe_lc (own := [("text", 3), ("place", 4)]) rfl sc_letters_there.nd (pi_listK (K := K) rfl (pe_call G_told_by_texts (hr.mono (by first | decide | exact Nat.le_refl _ | omega)) (by rfl) C_told_by_texts.g C_told_by_texts.k C_told_by_texts.b .nil pass0 (pa_cons (pv 0) (pa_cons (pe_tup (pa_cons (pv 1) pa_nil)) pa_nil)))) (blkOk_by (N := ["wide", "naming", "found", "text", "place", "own"]) (sc := (defScope s_letters_there)) (by decide +kernel)) (fun _ _ _ _ _ => (pg_tupK (K := K) (n := 2) rfl rfl (pgs_cons (pg_name (i := 3) sc_letters_there.nd rfl (.inl rfl)) (pgs_cons (pg_tupK (K := K) (n := 1) rfl rfl (pgs_cons (pg_name (i := 4) sc_letters_there.nd rfl (.inl rfl)) pgs_nil)) pgs_nil)))) (fun _ _ _ _ _ => pts_nil) (fun _ _ _ _ _ => (pe_call G_stands_at (hr.mono (by first | decide | exact Nat.le_refl _ | omega)) (by rfl) C_stands_at.g C_stands_at.k C_stands_at.b .nil pass0 (pa_cons (pv 3) (pa_cons (pv 4) pa_nil))))))
      (pss_one (ps_ret (pe_callTy (tup_K (K := K) rfl) (by rfl) B.tuple (by decide +kernel) (pa_cons (pe_lc (own := [("own", 5)]) rfl sc_letters_there.nd (pi_tupK (K := K) rfl (pe_tup (pa_starRg rfl (prg_2 (by rfl) B.range pe_int (pe_op (op_addK (K := K) rfl) (pv 0) pe_int)) (pa_cons pe_str (pa_cons pe_str pa_nil))))) (blkOk_by (N := ["wide", "naming", "found", "text", "place", "own"]) (sc := (defScope s_letters_there)) (by decide +kernel)) (fun _ _ _ _ _ => (pg_name (i := 5) sc_letters_there.nd rfl (.inl rfl))) (fun _ _ _ _ _ => (pts_one (pt_cmpR (op_inK (K := K) rfl) (pv 5) (pv 2) (by rfl)))) (fun _ _ _ _ _ => (pv 5))) pa_nil))))), ?_⟩)
  rintro O H ds d σ Q ⟨W, x, N, rfl, hx, hN, rfl⟩ A k
  have hT := told_is hN.ne hN.W2
  have hsz : (told W [N]).length < 2 * W ^ costs [N] := hT.size hN.W2
  have hsz2 := hN.size
  have hW3 := hN.W3
  refine s_seq (s_set (d := .list (((told W [N]).map fun t => stand t (named N t)).map eStand)) (ee_sc (ee_lcY (told W [N]) (fun t => .tuple [eTx t, .tuple ([N].map fun N => .int (named N t : Nat))]) (fun t => eStand (stand t (named N t))) (fun t => [.dat (.int (W : Int)), .dat x, .unk, .dat (eTx t), .dat (.int (named N t : Nat)), .unk]) (ei_list (ee_call (FD.pd (told_one hx hN)) (ea_cons (ee_var rfl) (ea_cons (ee_tup (ea_cons (ee_var rfl) ea_nil) (by show 1 ≤ 1000; decide)) ea_nil)))) (by omega)
    (fun t h => gt_tup (gts_cons (gt_name (by decide)) (gts_cons (gt_tup (gts_cons (gt_name (by decide)) gts_nil) rfl) gts_nil)) rfl) (fun t h => ee_call (FD.pd ⟨t, named N t, rfl, named_le N t, rfl⟩) (ea_cons (ee_var rfl) (ea_cons (ee_var rfl) ea_nil)))) (by rw [List.map_map]; rfl)) A fun σ1 H1 A1 => ?_)
  have hk : (kindsOf W).length ≤ 10 := by unfold kindsOf; rw [List.length_append, List.length_map, List.length_range']; show W + 2 ≤ 10; omega
  have hrg : EE _ [.dat (.int (W : Int)), .dat x, .dat (.list (((told W [N]).map fun t => stand t (named N t)).map eStand)), .unk, .unk, .unk] (.tuple ((kindsOf W).map eStand)) := ee_sc (ee_tup (ea_starRg (ee_int 1) (ee_op (od_addI (K := K) _ _) (ee_var (i := 0) rfl) (ee_int 1)) (by omega) (by omega) (ea_cons (ee_str "back") (ea_cons (ee_str "front") ea_nil))) (by rw [List.length_append, rgD_len]; show _ + 2 ≤ 1000; omega)) (by rw [← kinds_data, show ((W : Int) + 1 - 1).toNat = W by omega])
  refine s_retQ (H0 := H) (ee_cb cd_tupL (ea_cons (ee_lc (kindsOf W) eStand (fun s => memS s ((told W [N]).map fun t => stand t (named N t))) eStand (fun s => [.dat (.int (W : Int)), .dat x, .dat (.list (((told W [N]).map fun t => stand t (named N t)).map eStand)), .unk, .unk, .dat (eStand s)]) (ei_tup hrg) (by omega) (fun s h => gt_name (by decide)) (fun s h => ?_) (fun s h _ => ee_var rfl)) ea_nil)) A1 (by simp) k
  rw [← inV_stand]
  exact et_test (ee_op (od_inL (neg := false) (eStand_sc s) (stands_sc _)) (ee_var rfl) (ee_var rfl))
/-! ### text_with -/
def R_text_with (ds : List PyData) (d : Option PyData) : Prop := ∃ (W : Nat) (x : PyData) (N : Nm) (s : Sum Int Bool), ds = [.int (W : Int), x, eStand s] ∧ NmD x N ∧ NsOk W [N] ∧ d = withD W N s
theorem ok_text_with {f C : Addr} {fd : FuncData} (B : Bl mg) (CN : Cn K mg C) {f_told_by_texts : Addr} {fd_told_by_texts : FuncData} (C_told_by_texts : Cl K mg "told_by_texts" f_told_by_texts fd_told_by_texts ["wide", "namings"]) (G_told_by_texts : FnOk P w K mg base CX0 23 f_told_by_texts fd_told_by_texts ["wide", "namings"] (FD R_told)) {f_stands_at : Addr} {fd_stands_at : FuncData} (C_stands_at : Cl K mg "stands_at" f_stands_at fd_stands_at ["text", "place"]) (G_stands_at : FnOk P w K mg base CX0 3 f_stands_at fd_stands_at ["text", "place"] (FD R_stands_at)) (F : Fun K "text_with" "text_with" s_text_with f fd) : FnOk P w K mg base (L2.CX P w) 24 f fd ["wide", "naming", "what"] (FX C R_text_with) := by
  refine ok_fx F sc_text_with (fun ds d ⟨_, _, _, _, h, _⟩ => by rw [h]; rfl) (fun cdv A outer s H E hr => ⟨_, (pss_cons (ps_for (passes_of rfl) rfl (pi_listK (K := K) rfl (pe_call G_told_by_texts (hr.mono (by first | decide | exact Nat.le_refl _ | omega)) (by rfl) C_told_by_texts.g C_told_by_texts.k C_told_by_texts.b .nil pass0 (pa_cons (pv 0) (pa_cons (pe_tup (pa_cons (pv 1) pa_nil)) pa_nil)))) (pg_tupK (K := K) (n := 2) rfl rfl (pgs_cons (pg_name (i := 3) sc_text_with.nd rfl (.inl rfl)) (pgs_cons (pg_tupK (K := K) (n := 1) rfl rfl (pgs_cons (pg_name (i := 4) sc_text_with.nd rfl (.inl rfl)) pgs_nil)) pgs_nil))) (pss_one (ps_if (pt_cmpR op_eq (pe_call G_stands_at (hr.mono (by first | decide | exact Nat.le_refl _ | omega)) (by rfl) C_stands_at.g C_stands_at.k C_stands_at.b .nil pass0 (pa_cons (pv 3) (pa_cons (pv 4) pa_nil))) (pv 2) (nomark _)) (pss_one (ps_ret (pv 3))) pss_nil)))
      (pss_one (ps_raise rfl (takes_of rfl rfl rfl rfl) (pmk_own0 PySem.F.excBase_ValueError CN.xP CN.gP CN.kP (raises_own CN.bP CN.tP) rfl)))), ?_⟩)
  rintro O H ds d σ Q ⟨W, x, N, s, rfl, hx, hN, rfl⟩ A k ke
  refine s_seq (s_for (ds := (told W [N]).map fun t => .tuple [eTx t, .tuple ([N].map fun N => .int (named N t : Nat))]) (ei_list (ee_call (FD.pd (told_one hx hN)) (ea_cons (ee_var rfl) (ea_cons (ee_tup (ea_cons (ee_var rfl) ea_nil) (by show 1 ≤ 1000; decide)) ea_nil)))) A
    (fun i Γ' => (∃ x3 x4, Γ' = [.dat (.int (W : Int)), .dat x, .dat (eStand s), x3, x4]) ∧ ∀ j t, j < i → (told W [N])[j]? = some t → decide (stand t (named N t) = s) = false) ⟨⟨_, _, rfl⟩, fun j t hj => absurd hj (Nat.not_lt_zero j)⟩ ?_ ?_)
  · rintro i d Γ' Bs' σ2 H2 hd ⟨⟨x3, x4, rfl⟩, hno⟩ hB A2 v hv
    rw [List.getElem?_map] at hd
    cases ht : (told W [N])[i]? with
    | none => rw [ht] at hd; cases hd
    | some t =>
      rw [ht] at hd
      cases hd
      refine g_at (vs := [3, 4]) (gt_tup (gts_cons (gt_name (by decide)) (gts_cons (gt_tup (gts_cons (gt_name (by decide)) gts_nil) rfl) gts_nil)) rfl) A2 hv fun σ3 A3 => ?_
      refine s_if (b := decide (stand t (named N t) = s)) (by
        rw [← eStand_eq]
        exact et_test (ee_op (od_eq (eStand_sc _) (eStand_sc _) (eStand_scal _ _)) (ee_call (FD.pd ⟨t, named N t, rfl, named_le N t, rfl⟩) (ea_cons (ee_var rfl) (ea_cons (ee_var rfl) ea_nil))) (ee_var rfl))) A3 (fun h H3 e3 A4 => ?_) (fun h H3 e3 A4 => ?_)
      · refine s_retQ (H0 := H) (d := eTx t) (ee_var rfl) A4 (hB _ (by simp)) (k (eTx t) ?_)
        unfold withD
        rw [find_at _ _ i t ht hno h]
        rfl
      · refine ⟨_, ⟨⟨_, _, rfl⟩, fun j u hj hu => ?_⟩, A4⟩
        rcases Nat.lt_succ_iff_lt_or_eq.mp hj with c | c
        · exact hno j u c hu
        · rw [c, ht] at hu; rw [← Option.some.inj hu]; exact h
  · rintro Γ' σ2 H2 ⟨⟨x3, x4, rfl⟩, hno⟩ A2
    rw [List.length_map] at hno
    refine ke ?_ H2 (A2.ex ([], H) (by simp)).same
    unfold withD
    rw [find_no _ _ hno]
    rfl
end
end Nx
set_option maxHeartbeats 4000000
/-! the law's own defs, 1: what is drawn -/
namespace Nx
open PySem PySem.Spec PyProof.Rows L2
section
variable {P : Program} {w : World} {K : PySem.W.Frag} {mg : Str → Option Value} {base : Heap}
/-! ### take -/
def Pre_take (ds : List PyData) : Prop := ∃ n : Nat, ds = [.int (n : Int)] ∧ 1 ≤ n ∧ n ≤ 1000
def Post_take (ds : List PyData) (d : PyData) : Prop := ∃ n r : Nat, ds = [.int (n : Int)] ∧ d = .int (r : Int) ∧ r < n
theorem mod_nat {x n : Int} (h : 0 < n) : ∃ r : Nat, x % n = (r : Int) ∧ (r : Int) < n := ⟨(x % n).toNat, by have := Int.emod_nonneg x (Int.ne_of_gt h); omega, by have := Int.emod_nonneg x (Int.ne_of_gt h); have := Int.emod_lt_of_pos x h; omega⟩
theorem ok_take {f : Addr} {fd : FuncData} (B : Bl mg) (F : Fun K "_law_take" "_law_take" s__law_take f fd) : FnOk P w K mg base CX0 1 f fd ["_law_urn", "_law_low_so"] (FU 1 Pre_take Post_take) := by
  refine ok_fu F sc__law_take (fun ds ⟨_, h, _⟩ => by rw [h]; rfl) (fun cdv A outer s H E hr => ⟨_, (pss_cons (ps_if (pt_cmpR op_gt (pe_ix (ix_seqK (K := K) rfl) (pv 0) pe_int (fun _ _ => rfl)) pe_int (nomark _)) (pss_cons (ps_set (i := 2) sc__law_take.nd rfl (.inl rfl) (pe_op op_mod (pe_callTy call_int1 (by rfl) B.int (by decide +kernel) (pa_cons (pe_ix (ix_seqK (K := K) rfl) (pv 0) pe_int (fun _ _ => rfl)) pa_nil)) (pv 1)))
      (pss_cons (ps_asg (pe_op op_fdiv (pe_ix (ix_seqK (K := K) rfl) (pv 0) pe_int (fun _ _ => rfl)) (pv 1)) (pg_sub (pv 0) pe_int set_list))
      (pss_one (ps_ret (pv 2))))) pss_nil)
      (pss_cons (ps_asg (pe_op (op_addK (K := K) rfl) (pe_ix (ix_seqK (K := K) rfl) (pv 0) pe_int (fun _ _ => rfl)) pe_int) (pg_sub (pv 0) pe_int set_list))
      (pss_cons (ps_set (i := 3) sc__law_take.nd rfl (.inl rfl) (pe_op op_mod (pe_callTy call_int1 (by rfl) B.int (by decide +kernel) (pa_cons (pe_op op_mul (pe_op (op_addK (K := K) rfl) (pe_ix (ix_seqK (K := K) rfl) (pv 0) pe_int (fun _ _ => rfl)) (pe_op op_mul pe_int (pe_ix (ix_seqK (K := K) rfl) (pv 0) pe_int (fun _ _ => rfl)))) (pe_op (op_addK (K := K) rfl) pe_int (pe_ix (ix_seqK (K := K) rfl) (pv 0) pe_int (fun _ _ => rfl)))) pa_nil)) pe_int))
      (pss_cons (ps_set (i := 4) sc__law_take.nd rfl (.inl rfl) (pe_op (op_addK (K := K) rfl) (pe_op op_mod (pe_callTy call_int1 (by rfl) B.int (by decide +kernel) (pa_cons (pv 3) pa_nil)) pe_int) pe_int))
      (pss_cons (ps_set (i := 5) sc__law_take.nd rfl (.inl rfl) (pe_op op_mod (pe_callTy call_int1 (by rfl) B.int (by decide +kernel) (pa_cons (pe_op op_mul (pe_op (op_addK (K := K) rfl) (pe_op (op_addK (K := K) rfl) (pv 3) (pe_ix (ix_seqK (K := K) rfl) (pv 0) pe_int (fun _ _ => rfl))) (pe_op op_fdiv (pe_ix (ix_seqK (K := K) rfl) (pv 0) pe_int (fun _ _ => rfl)) pe_int)) (pv 4)) pa_nil)) pe_int))
      (pss_one (ps_ret (pe_op op_mod (pe_callTy call_int1 (by rfl) B.int (by decide +kernel) (pa_cons (pe_op op_fdiv (pe_op op_mod (pe_callTy call_int1 (by rfl) B.int (by decide +kernel) (pa_cons (pe_op (op_addK (K := K) rfl) (pe_op op_mul (pv 5) pe_int) (pv 3)) pa_nil)) pe_int) pe_int) pa_nil)) (pv 1))))))))), ?_⟩)
  rintro O H u m ds σ Q ⟨n, rfl, hn, hn2⟩ hu hU hm A k
  have hf : Fr [([u], H)] u := fun p hp => by rw [List.mem_singleton.mp hp]; exact .inl (List.mem_singleton.mpr rfl)
  obtain ⟨a, b, c, w0, hb0, hb1, hc0, hc1⟩ := hU.ow (O := O)
  have hn0 : (0 : Int) < (n : Int) := by omega
  refine s_seq (s_ifH (b := decide ((0 : Int) < a)) (th_test (eh_op A.dom (od_gt a 0) (eh_ixO (j := 0) A (i := 0) rfl w0 (eh_of (ee_int _) A) rfl) (eh_of (ee_int 0) A))) A (fun h H1 e1 A1 => ?_) (fun h H1 e1 A1 => ?_))
  · have w1 := w0.mono e1
    refine s_seq (s_setH (eh_op A1.dom (od_modI hn0) (eh_cb1 A1.dom (cd_int a) (eh_ixO (j := 0) A1 (i := 0) rfl w1 (eh_of (ee_int _) A1) rfl)) (eh_of (ee_var rfl) A1)) A1 fun σ2 H2 e2 A2 => ?_)
    have w2 := w1.mono e2
    refine s_seq (s_putO (j := 0) (i := 0) (p := u) (d := .int (a / (n : Int))) rfl (eh_op A2.dom (od_fdivI ⟨hn0, by omega⟩) (eh_ixO (j := 0) A2 (i := 0) rfl w2 (eh_of (ee_int _) A2) rfl) (eh_of (ee_var rfl) A2)) (eh_of (ee_int 0) A2) A2 hu hf w2 (by show 0 < 3; decide) fun H3 e3 A3 w3 => ?_)
    · obtain ⟨r, hr1, hr2⟩ := mod_nat (x := a) hn0
      rw [hr1] at A3
      refine s_retE (ee_var rfl) A3 (w3.urn (m := m) ⟨hb0, hb1⟩ ⟨hc0, hc1⟩) (by simp) fun v H4 e4 U4 h4 => k _ v H4 ⟨n, r, rfl, rfl, by omega⟩ e4 (U4.more (by omega)) h4
  · have w1 := w0.mono e1
    refine s_next (s_seq (s_putO (j := 2) (i := 0) (p := u) (d := .int (c + 1)) rfl (eh_op A1.dom (od_addI c 1) (eh_ixO (j := 2) A1 (i := 0) rfl w1 (eh_of (ee_int _) A1) rfl) (eh_of (ee_int 1) A1)) (eh_of (ee_int 2) A1) A1 hu hf w1 (by show 2 < 3; decide) fun H2 e2 A2 w2 => ?_))
    have w2' : Ow O H2 u [.int a, .int b, .int (c + 1)] := w2
    refine s_seq (s_setH (eh_op A2.dom (od_modI (by decide)) (eh_cb1 A2.dom (cd_int _) (eh_op A2.dom (od_mulI (.inr (by constructor <;> omega))) (eh_op A2.dom (od_addI _ _) (eh_ixO (j := 1) A2 (i := 0) rfl w2' (eh_of (ee_int _) A2) rfl) (eh_op A2.dom (od_mulI (.inl (by decide))) (eh_of (ee_int 48271) A2) (eh_ixO (j := 2) A2 (i := 0) rfl w2' (eh_of (ee_int _) A2) rfl))) (eh_op A2.dom (od_addI _ _) (eh_of (ee_int 39373) A2) (eh_ixO (j := 2) A2 (i := 0) rfl w2' (eh_of (ee_int _) A2) rfl)))) (eh_of (ee_int 2147483647) A2)) A2 fun σ3 H3 e3 A3 => ?_)
    obtain ⟨r1, q1, l1⟩ := mod_nat (x := (b + 48271 * (c + 1)) * (39373 + (c + 1))) (n := 2147483647) (by decide)
    rw [q1] at A3
    have w3 := w2'.mono e3
    refine s_seq (s_setH (eh_op A3.dom (od_addI _ _) (eh_op A3.dom (od_modI (by decide)) (eh_cb1 A3.dom (cd_int _) (eh_of (ee_var rfl) A3)) (eh_of (ee_int 40009) A3)) (eh_of (ee_int 7) A3)) A3 fun σ4 H4 e4 A4 => ?_)
    obtain ⟨r2, q2, l2⟩ := mod_nat (x := (r1 : Int)) (n := 40009) (by decide)
    rw [q2] at A4
    have w4 := w3.mono e4
    refine s_seq (s_setH (eh_op A4.dom (od_modI (by decide)) (eh_cb1 A4.dom (cd_int _) (eh_op A4.dom (od_mulI (.inr (by constructor <;> omega))) (eh_op A4.dom (od_addI _ _) (eh_op A4.dom (od_addI _ _) (eh_of (ee_var rfl) A4) (eh_ixO (j := 2) A4 (i := 0) rfl w4 (eh_of (ee_int _) A4) rfl)) (eh_op A4.dom (od_fdivI ⟨by decide, by decide⟩) (eh_ixO (j := 1) A4 (i := 0) rfl w4 (eh_of (ee_int _) A4) rfl) (eh_of (ee_int 1000003) A4))) (eh_of (ee_var rfl) A4))) (eh_of (ee_int 2147483629) A4)) A4 fun σ5 H5 e5 A5 => ?_)
    obtain ⟨r3, q3, l3⟩ := mod_nat (x := ((r1 : Int) + (c + 1) + b / 1000003) * ((r2 : Int) + 7)) (n := 2147483629) (by decide)
    rw [q3] at A5
    have w5 := w4.mono e5
    obtain ⟨r, hr1, hr2⟩ := mod_nat (x := (((r3 : Int) * 48271 + r1) % 2147483587) / 64) hn0
    refine s_retE (d := .int (r : Int)) (ee_sc (ee_op (od_modI hn0) (ee_cb (cd_int _) (ea_cons (ee_op (od_fdivI ⟨by decide, by decide⟩) (ee_op (od_modI (by decide)) (ee_cb (cd_int _) (ea_cons (ee_op (od_addI (K := K) _ _) (ee_op (od_mulI (.inr (by decide))) (ee_var rfl) (ee_int 48271)) (ee_var rfl)) ea_nil)) (ee_int 2147483587)) (ee_int 64)) ea_nil)) (ee_var rfl)) (by rw [hr1])) A5 (w5.urn (m := m + 1) ⟨hb0, hb1⟩ ⟨by omega, by omega⟩) (by simp) fun v H6 e6 U6 h6 => k _ v H6 ⟨n, r, rfl, rfl, by omega⟩ e6 U6 h6
/-! ### of -/
def Pre_of (ds : List PyData) : Prop := ∃ xs, ds = [.list xs] ∧ 1 ≤ xs.length ∧ xs.length ≤ 1000
def Post_of (ds : List PyData) (d : PyData) : Prop := ∃ xs, ds = [.list xs] ∧ d ∈ xs
theorem ok_of {f : Addr} {fd : FuncData} (B : Bl mg) {f__law_take : Addr} {fd__law_take : FuncData} (C__law_take : Cl K mg "_law_take" f__law_take fd__law_take ["_law_urn", "_law_low_so"]) (G__law_take : FnOk P w K mg base CX0 1 f__law_take fd__law_take ["_law_urn", "_law_low_so"] (FU 1 Pre_take Post_take)) (F : Fun K "_law_of" "_law_of" s__law_of f fd) : FnOk P w K mg base CX0 2 f fd ["_law_urn", "_law_some_so"] (FU 1 Pre_of Post_of) := by
  refine ok_fu F sc__law_of (fun ds ⟨_, h, _⟩ => by rw [h]; rfl) (fun cdv A outer s H E hr => ⟨_, (pss_one (ps_ret (pe_ix (ix_seqK (K := K) rfl) (pv 1) (pe_call G__law_take (hr.mono (by first | decide | exact Nat.le_refl _ | omega)) (by rfl) C__law_take.g C__law_take.k C__law_take.b .nil pass0 (pa_cons (pv 0) (pa_cons (pe_callB (len_K (K := K) rfl) (by rfl) B.len PySem.boot_len (pa_cons (pv 1) pa_nil)) pa_nil))) (fun _ _ => rfl)))), ?_⟩)
  rintro O H u m ds σ Q ⟨xs, rfl, hx1, hx2⟩ hu hU hm A k
  have hf : Fr [([u], H)] u := fun p hp => by rw [List.mem_singleton.mp hp]; exact .inl (List.mem_singleton.mpr rfl)
  refine s_retU (kk := 0 + (0 + 0 + 1)) (Ok := fun d => d ∈ xs) (eu_op (Ok2 := fun d => ∃ r : Nat, d = .int (r : Int) ∧ r < xs.length) (eu_of (ee_var rfl)) (eu_is (eu_call (i := 0) rfl (eua_cons (eu_of (ee_lenL (ee_var rfl))) eua_nil) (fun ds ⟨d, es, h1, h2, h3⟩ => ⟨xs.length, by rw [h1, h2, h3], hx1, hx2⟩)) ?_) ?_) A hu hf hU (by omega) (by simp) fun d v H2 o e2 U2 h2 => k d v H2 ⟨xs, rfl, o⟩ e2 (U2.more (by omega)) h2
  · rintro d ⟨ds, ⟨d1, es, rfl, rfl, rfl⟩, n, r, h1, rfl, hr⟩
    have e : (n : Int) = (xs.length : Int) := by
      rw [List.cons.injEq, PyData.int.injEq] at h1
      exact h1.1.symm
    exact ⟨r, rfl, by omega⟩
  · rintro d1 d2 rfl ⟨r, rfl, hr⟩
    exact ⟨xs[r], od_ix_l (List.getElem?_eq_getElem hr), List.getElem_mem hr⟩
/-! ### text -/
theorem fa_nat (x : PyData) : True := trivial
def Pre_text (ds : List PyData) : Prop := ∃ W n : Nat, ds = [.int (W : Int), .int (n : Int)] ∧ 1 ≤ W ∧ W ≤ 3 ∧ n ≤ 12
def Post_text (ds : List PyData) (d : PyData) : Prop := ∃ (W n : Nat) (t : Tx), ds = [.int (W : Int), .int (n : Int)] ∧ d = eTx t ∧ okT W t ∧ t.length ≤ 12
theorem txs_of {W : Nat} : ∀ xs : List PyData, (∀ y ∈ xs, ∃ a : Int, y = .int a ∧ 1 ≤ a ∧ a ≤ (W : Int)) → ∃ t : Tx, xs = t.map .int ∧ okT W t
  | [], _ => ⟨[], rfl, okT_nil W⟩
  | y :: xs, h => by
    obtain ⟨t, h1, h2⟩ := txs_of xs fun z hz => h z (List.mem_cons_of_mem _ hz)
    obtain ⟨a, rfl, ha⟩ := h y List.mem_cons_self
    refine ⟨a :: t, by rw [h1]; rfl, fun b hb => ?_⟩
    rcases List.mem_cons.mp hb with e | e
    · rw [e]; exact ha
    · exact h2 b e
theorem eu_take {Γ : List Slv} {u : Addr} {te : TE} {n i : Nat} {E : XK} (hi : Γ[i]? = some (.adr u)) (h : EE te Γ (.int (n : Int))) (h1 : 1 ≤ n) (h2 : n ≤ 1000) : EU (tCall (FU 1 Pre_take Post_take) [] E (tCons (tVar i) (tCons te tNil))) Γ u 1 (fun d => ∃ r : Nat, d = .int (r : Int) ∧ r < n) :=
  eu_is (eu_call (k1 := 0 + 0) (i := i) hi (eua_cons (eu_of h) eua_nil) (fun ds ⟨d, es, e1, e2, e3⟩ => ⟨n, by rw [e1, e2, e3], h1, h2⟩)) fun d ⟨ds, ⟨d1, es, q1, q2, q3⟩, n', r, h1, hd, hr⟩ => by
    subst q1 q2 q3
    have e : (n : Int) = (n' : Int) := by
      rw [List.cons.injEq, PyData.int.injEq] at h1
      exact h1.1
    exact ⟨r, hd, by omega⟩
theorem ok_text {f : Addr} {fd : FuncData} (B : Bl mg) {f__law_take : Addr} {fd__law_take : FuncData} (C__law_take : Cl K mg "_law_take" f__law_take fd__law_take ["_law_urn", "_law_low_so"]) (G__law_take : FnOk P w K mg base CX0 1 f__law_take fd__law_take ["_law_urn", "_law_low_so"] (FU 1 Pre_take Post_take)) (F : Fun K "_law_text" "_law_text" s__law_text f fd) : FnOk P w K mg base CX0 2 f fd ["_law_urn", "_law_wide", "_law_most_so"] (FU 13 Pre_text Post_text) := by
  refine ok_fu F sc__law_text (fun ds ⟨_, _, h, _⟩ => by rw [h]; rfl) (fun cdv A outer s H E hr => ⟨_, (pss_one (ps_ret (pe_callTy (tup_K (K := K) rfl) (by rfl) B.tuple (by decide +kernel) (pa_cons (pe_lc (own := [("_law_lap", 3)]) rfl sc__law_text.nd (pi_range1 (by rfl) B.range (pa_cons (pe_call G__law_take (hr.mono (by first | decide | exact Nat.le_refl _ | omega)) (by rfl) C__law_take.g C__law_take.k C__law_take.b .nil pass0 (pa_cons (pv 0) (pa_cons (pe_op (op_addK (K := K) rfl) (pv 2) pe_int) pa_nil))) pa_nil)) (blkOk_by (N := ["_law_urn", "_law_wide", "_law_most_so", "_law_lap"]) (sc := (defScope s__law_text)) (by decide +kernel)) (fun _ _ _ _ _ => (pg_name (i := 3) sc__law_text.nd rfl (.inl rfl))) (fun _ _ _ _ _ => pts_nil) (fun _ _ _ _ _ => (pe_op (op_addK (K := K) rfl) pe_int (pe_call G__law_take (hr.mono (by first | decide | exact Nat.le_refl _ | omega)) (by rfl) C__law_take.g C__law_take.k C__law_take.b .nil pass0 (pa_cons (pv 0) (pa_cons (pv 1) pa_nil)))))) pa_nil)))), ?_⟩)
  rintro O H u m ds σ Q ⟨W, n, rfl, hW1, hW3, hn⟩ hu hU hm A k
  have hf : Fr [([u], H)] u := fun p hp => by rw [List.mem_singleton.mp hp]; exact .inl (List.mem_singleton.mpr rfl)
  refine s_retU (kk := (1 + 0) + 12 * (0 + 1) + 0) (Ok := fun d => ∃ t : Tx, d = eTx t ∧ okT W t ∧ t.length ≤ 12) (eu_cb (OkA := fun l => ∃ xs : List PyData, l = [.list xs] ∧ xs.length ≤ 12 ∧ ∀ y ∈ xs, ∃ a : Int, y = .int a ∧ 1 ≤ a ∧ a ≤ (W : Int)) (eua_is (eua_cons (eu_lcR (x := 3) (M := 12) (OkN := fun _ => True) (Ok := fun y => ∃ a : Int, y = .int a ∧ 1 ≤ a ∧ a ≤ (W : Int)) (Γ' := fun j => [.adr u, .dat (.int (W : Int)), .dat (.int (n : Int)), .dat (.int (0 + (j : Int)))])
      (eua_is (eua_cons (eu_take (n := n + 1) (i := 0) rfl (ee_succ (ee_var rfl)) (by omega) (by omega)) eua_nil) fun l ⟨d, es, e1, ⟨r, e2, e3⟩, e4⟩ => ⟨r, by rw [e1, e2, e4], by omega, trivial⟩) (by decide) (fun j => rfl)
      (fun j => eu_op (eu_of (ee_int 1)) (eu_take (n := W) (i := 0) rfl (ee_var rfl) (by omega) (by omega)) fun d1 d2 e1 ⟨r, e2, e3⟩ => ⟨.int (1 + (r : Int)), by rw [e1, e2]; exact od_addI _ _, _, rfl, by omega, by omega⟩)) eua_nil) fun l ⟨d, es, e1, ⟨xs, e2, e5, _, e3⟩, e4⟩ => ⟨xs, by rw [e1, e2, e4], e5, e3⟩)
      fun l ⟨xs, e1, e5, e2⟩ => by
        obtain ⟨t, h1, h2⟩ := txs_of xs e2
        exact ⟨.tuple xs, by rw [e1]; exact cd_tupL, t, by rw [h1]; rfl, h2, by rw [h1, List.length_map] at e5; exact e5⟩) A hu hf hU (by omega) (by simp) fun d v H2 ⟨t, o1, o2, o3⟩ e2 U2 h2 => k d v H2 ⟨W, n, t, rfl, o1, o2, o3⟩ e2 (U2.more (by omega)) h2
/-! ### pick -/
def Pre_pick (ds : List PyData) : Prop := ∃ (ns : List Int) (c : Nat), ds = [.list (ns.map .int), .int (c : Int)] ∧ ns.length ≤ 3 ∧ c ≤ 3
def Post_pick (ds : List PyData) (d : PyData) : Prop := ∃ ms : List Int, d = .list (ms.map .int) ∧ ms.length ≤ 3
theorem erase_map {α β : Type} (f : α → β) : ∀ (l : List α) (r : Nat), (l.map f).eraseIdx r = (l.eraseIdx r).map f
  | [], r => by simp
  | a :: l, 0 => rfl
  | a :: l, r + 1 => by
    show f a :: (l.map f).eraseIdx r = f a :: (l.eraseIdx r).map f
    rw [erase_map f l r]
theorem par_open {te : TE} {i j : Nat} {D : L2.Ends} {σ : L2.St} {H : Hp} (h : te σ H fun v H1 => ([] : List V).length ≤ sizeLine ∧ ∀ q, H1 q = none → ∃ a b, [v, V.ref q] = [a, b] ∧ D.nx ((σ.set i (some a)).set j (some b)) (upd H1 q (.lst []))) : tPar i j (tCons te (tCons (tLst tNil) tNil)) D σ H := h
theorem ints_of {O : List Addr} {H : Hp} {p : Addr} {ns : List Int} (h : Ow O H p (ns.map .int)) : H p = some (.lst (ns.map V.int)) := by
  obtain ⟨xs, h1, h2⟩ := h
  have e := h2.sc (sc_ints ns).1
  rw [(sc_ints ns).2] at e
  rw [h1, e]
theorem ow_ints {O : List Addr} {H : Hp} {p : Addr} {ns : List Int} (h : H p = some (.lst (ns.map V.int))) : Ow O H p (ns.map .int) := by
  refine ⟨_, h, ?_⟩
  have e : ns.map V.int = (ns.map PyData.int).map vOf := (sc_ints ns).2.symm
  rw [e]
  exact das_sc (sc_ints ns).1
theorem sb_upd {H : Hp} {p : Addr} {o : HO} : SameB [p] H (upd H p o) := fun b x hb h => by
  rw [upd_ne (fun z => hb (by rw [z]; exact List.mem_singleton.mpr rfl))]
  exact h
theorem Ats.put {O : List Addr} {Bs : List (List Addr × Hp)} {σ : L2.St} {H : Hp} {Γ : List Slv} {p : Addr} {o : HO} (A : Ats O Bs σ H Γ) (hO : p ∈ O) (hf : Fr Bs p) : Ats O Bs σ (upd H p o) Γ :=
  A.moved sb_upd (fun a ha => by rw [List.mem_singleton.mp ha]; exact hO) (fun a ha => by rw [List.mem_singleton.mp ha, upd_same]; exact fun z => by cases z) (fun q hq a ha => by rw [List.mem_singleton.mp ha]; exact hf q hq)
theorem Urn.put {H : Hp} {u p : Addr} {m : Nat} {o : HO} (h : Urn H u m) (hp : u ≠ p) : Urn (upd H p o) u m := let ⟨a, b, c, h1, h2⟩ := h; ⟨a, b, c, by rw [upd_ne hp]; exact h1, h2⟩
theorem ok_pick {f : Addr} {fd : FuncData} (B : Bl mg) {f__law_take : Addr} {fd__law_take : FuncData} (C__law_take : Cl K mg "_law_take" f__law_take fd__law_take ["_law_urn", "_law_low_so"]) (G__law_take : FnOk P w K mg base CX0 1 f__law_take fd__law_take ["_law_urn", "_law_low_so"] (FU 1 Pre_take Post_take)) (F : Fun K "_law_pick" "_law_pick" s__law_pick f fd) : FnOk P w K mg base CX0 2 f fd ["_law_urn", "_law_some", "_law_count"] (FU 3 Pre_pick Post_pick) := by
  refine ok_fu F sc__law_pick (fun ds ⟨_, _, h, _⟩ => by rw [h]; rfl) (fun cdv A outer s H E hr => ⟨_, (pss_cons (ps_par (i := 3) (j := 4) rfl sc__law_pick.nd rfl rfl (by decide) rfl rfl (pa_cons (pe_callTy (list_K (K := K) rfl) (by rfl) B.list (by decide +kernel) (pa_cons (pv 1) pa_nil)) (pa_cons (pe_lst pa_nil) pa_nil)) rfl)
      (pss_cons (ps_for PassesOwn.never rfl (pi_range1 (by rfl) B.range (pa_cons (pe_callB (call_min2 rfl) (by rfl) B.min (by decide +kernel) (pa_cons (pe_callTy call_int1 (by rfl) B.int (by decide +kernel) (pa_cons (pv 2) pa_nil)) (pa_cons (pe_callB (len_K (K := K) rfl) (by rfl) B.len PySem.boot_len (pa_cons (pv 3) pa_nil)) pa_nil))) pa_nil)) (pg_name (i := 5) sc__law_pick.nd rfl (.inl rfl)) (pss_one (ps_expr (pe_bmK (K := K) rfl PySem.F.plainAttrs_list PySem.F.slot_list_append PySem.F.type_list_append mt_append (pv 4) (pa_cons (pe_bmK (K := K) rfl PySem.F.plainAttrs_list PySem.F.slot_list_pop PySem.F.type_list_pop mt_popAt (pv 3) (pa_cons (pe_call G__law_take (hr.mono (by first | decide | exact Nat.le_refl _ | omega)) (by rfl) C__law_take.g C__law_take.k C__law_take.b .nil pass0 (pa_cons (pv 0) (pa_cons (pe_callB (len_K (K := K) rfl) (by rfl) B.len PySem.boot_len (pa_cons (pv 3) pa_nil)) pa_nil))) pa_nil)) pa_nil)))))
      (pss_one (ps_ret (pv 4))))), ?_⟩)
  rintro O H u m ds σ Q ⟨ns, c, rfl, hns, hc⟩ hu hU hm A k
  have hf : Fr [([u], H)] u := fun p hp => by rw [List.mem_singleton.mp hp]; exact .inl (List.mem_singleton.mpr rfl)
  obtain ⟨v1, hv1, hD1⟩ := A.val 1 _ rfl
  cases hD1 with
  | @lst a0 xs _ hx1 hx2 =>
    have hxs : xs = ns.map V.int := by
      have e := hx2.sc (sc_ints ns).1
      rw [(sc_ints ns).2] at e
      exact e
    subst hxs
    refine s_seq (par_open ?_)
    refine ⟨_, hv1, a0, _, rfl, .inl (SqL.of (cut_same _ _ hx1)), fun p hp => ⟨Nat.zero_le _, fun q hq => ⟨_, _, rfl, ?_⟩⟩⟩
    have hpu : u ≠ p := fun z => by obtain ⟨_, h⟩ := hU.at; rw [z, hp] at h; cases h
    have A1 := A.own (o := .lst (ns.map V.int)) hp
    have hqp : p ≠ q := ne_of_none upd_same hq
    have U1 := hU.put (o := .lst (ns.map V.int)) hpu
    have hqu : u ≠ q := fun z => by obtain ⟨_, h⟩ := U1.at; rw [z, hq] at h; cases h
    have fp := Fr.new A hp
    have fq := Fr.new A1 hq
    have A2 := ((A1.own (o := .lst []) hq).setA (i := 3) (a := p)).setA (i := 4) (a := q)
    have U2 := U1.put (o := .lst []) hqu
    have wp : Ow (q :: p :: O) (upd (upd H p (.lst (ns.map V.int))) q (.lst [])) p (ns.map .int) := ow_ints (by rw [upd_ne hqp]; exact upd_same)
    have wq : Ow (q :: p :: O) (upd (upd H p (.lst (ns.map V.int))) q (.lst [])) q (([] : List Int).map .int) := ow_ints upd_same
    have hu2 : u ∈ q :: p :: O := List.mem_cons_of_mem _ (List.mem_cons_of_mem _ hu)
    have hp2 : p ∈ q :: p :: O := List.mem_cons_of_mem _ List.mem_cons_self
    have hq2 : q ∈ q :: p :: O := List.mem_cons_self
    have hlen := eh_lenO (K := K) A2 (i := 3) rfl wp
    rw [List.length_map] at hlen
    dsimp only
    refine s_seq (s_forH (eih_rng1 (eh_cb2 A2.dom (cd_min (c : Int) (ns.length : Int)) (eh_cb1 A2.dom (cd_int (c : Int)) (eh_of (ee_var (i := 2) rfl) A2)) hlen) (by split <;> omega) (by split <;> omega)) A2
      (fun i Γ' H' => (∃ x5, Γ' = [.adr u, .dat (.list (ns.map .int)), .dat (.int (c : Int)), .adr p, .adr q, x5]) ∧ Urn H' u (m + i) ∧ (∃ ps : List Int, ps.length + i = ns.length ∧ Ow (q :: p :: O) H' p (ps.map .int)) ∧ ∃ ms : List Int, ms.length = i ∧ Ow (q :: p :: O) H' q (ms.map .int))
      (fun i Γ' H1 H2 e ⟨h1, h2, ⟨ps, h3, h4⟩, ms, h5, h6⟩ => ⟨h1, h2.mono e, ⟨ps, h3, h4.mono e⟩, ms, h5, h6.mono e⟩) ⟨⟨_, rfl⟩, U2, ⟨ns, by omega, wp⟩, [], rfl, wq⟩ ?_ ?_)
    · rintro i d Γ' Bs' σ3 H3 hd ⟨⟨x5, rfl⟩, U3, ⟨ps, hps, wp3⟩, ms, hms, wq3⟩ hB hF A3 xv hxv
      have hi : i < ns.length := by
        have := (List.getElem?_eq_some_iff.mp hd).1
        rw [rgD_len] at this
        split at this <;> omega
      refine g_at (vs := [5]) (gt_name (by decide)) A3 hxv fun σ4 A4 => ?_
      have fp' := hF p hp2 fun q' hq' => by
        rcases fp q' hq' with h | h
        · exact .inl h
        · exact .inr h
      have fq' := hF q hq2 fq
      have fu' := hF u hu2 hf
      refine ⟨_, A4.adr 4 q rfl, .inl ⟨rfl, _, .inl (.inl (ints_of wq3))⟩, _, A4.adr 3 p rfl, .inl ⟨rfl, _, .inl (.inl (ints_of wp3))⟩, _, A4.adr 0 u rfl, ?_⟩
      have hlen4 := eh_lenO (K := K) A4 (i := 3) rfl wp3
      rw [List.length_map] at hlen4
      refine hlen4 H3 (Same.refl _) _ fun v H4 e4 hv => ?_
      refine ⟨q :: p :: O, u, m + i, [.int (ps.length : Nat)], [v], rfl, hu2, (A4.mono e4).dom, U3.mono e4, by omega, .cons hv .nil, ⟨ps.length, rfl, by omega, by omega⟩, fun d v2 H5 ⟨n', r, h1, hd2, hr⟩ e5 U5 h5 => ?_⟩
      subst hd2
      cases h5
      have hn' : n' = ps.length := by
        rw [List.cons.injEq, PyData.int.injEq] at h1
        omega
      subst hn'
      have hp5 : H5 p = some (.lst (ps.map V.int)) := e5 _ _ (fun z => hpu (List.mem_singleton.mp z).symm) (e4 _ _ (ints_of wp3))
      have hq5 : H5 q = some (.lst (ms.map V.int)) := e5 _ _ (fun z => hqu (List.mem_singleton.mp z).symm) (e4 _ _ (ints_of wq3))
      refine ⟨p, _, (r : Int), r, .int ps[r], rfl, rfl, hp5, by omega, by omega, ?_, by rw [List.getElem?_map, List.getElem?_eq_getElem hr]; rfl, ?_⟩
      · unfold seqIndex?
        rw [List.length_map]
        have h0 : ¬ (r : Int) < 0 := by omega
        simp only [h0, if_false]
        have h2 : (0 ≤ (r : Int) && (r : Int) < (ps.length : Int)) = true := by simp; omega
        simp [hr]
      · refine ⟨q, ms.map V.int, _, rfl, rfl, by rw [upd_ne hqp.symm]; exact hq5, by rw [List.length_map, sizeLine_eq]; omega, ?_⟩
        have A5 := (A4.mono e4).urn e5 hu2 fu' U5.at
        have A6 := (A5.put (o := .lst ((ps.map V.int).eraseIdx r)) hp2 fp').put (o := .lst (ms.map V.int ++ [.int ps[r]])) hq2 fq'
        have U6 := (U5.put (o := .lst ((ps.map V.int).eraseIdx r)) hpu).put (o := .lst (ms.map V.int ++ [.int ps[r]])) hqu
        refine ⟨_, ⟨⟨_, rfl⟩, by rw [← Nat.add_assoc]; exact U6, ⟨ps.eraseIdx r, ?_, ow_ints ?_⟩, ms ++ [ps[r]], by rw [List.length_append, hms]; rfl, ow_ints ?_⟩, A6⟩
        · rw [List.length_eraseIdx_of_lt hr]; omega
        · rw [upd_ne hqp, upd_same, erase_map]
        · rw [upd_same, List.map_append]; rfl
    · rintro Γ' σ3 H3 ⟨⟨x5, rfl⟩, U3, ⟨ps, hps, wp3⟩, ms, hms, wq3⟩ A3
      have A5 := (A3.freeze (i := 4) (A1.fresh hq) rfl wq3).disown
      have hm3 : (rgD 0 (if (ns.length : Int) < (c : Int) then (ns.length : Int) else (c : Int)).toNat).length ≤ 3 := by rw [rgD_len]; split <;> omega
      exact s_retE (ee_var rfl) A5 (U3.more (m' := m + 3) (by omega)) (by simp) fun v H6 e6 U6 h6 => k _ v H6 ⟨ms, rfl, by omega⟩ e6 U6 h6
/-! ### letters_of -/
def Pre_lets (ds : List PyData) : Prop := ∃ W : Nat, ds = [.int (W : Int)] ∧ 1 ≤ W ∧ W ≤ 3
def Post_lets (ds : List PyData) (d : PyData) : Prop := ∃ ms : List Int, d = .tuple (ms.map .int) ∧ ms.length ≤ 3
theorem ok_letters_of {f : Addr} {fd : FuncData} (B : Bl mg) {f__law_take : Addr} {fd__law_take : FuncData} (C__law_take : Cl K mg "_law_take" f__law_take fd__law_take ["_law_urn", "_law_low_so"]) (G__law_take : FnOk P w K mg base CX0 1 f__law_take fd__law_take ["_law_urn", "_law_low_so"] (FU 1 Pre_take Post_take)) {f__law_pick : Addr} {fd__law_pick : FuncData} (C__law_pick : Cl K mg "_law_pick" f__law_pick fd__law_pick ["_law_urn", "_law_some", "_law_count"]) (G__law_pick : FnOk P w K mg base CX0 2 f__law_pick fd__law_pick ["_law_urn", "_law_some", "_law_count"] (FU 3 Pre_pick Post_pick)) (F : Fun K "_law_letters_of" "_law_letters_of" s__law_letters_of f fd) : FnOk P w K mg base CX0 3 f fd ["_law_urn", "_law_wide"] (FU 4 Pre_lets Post_lets) := by
  refine ok_fu F sc__law_letters_of (fun ds ⟨_, h, _⟩ => by rw [h]; rfl) (fun cdv A outer s H E hr => ⟨_, (pss_cons (ps_set (i := 2) sc__law_letters_of.nd rfl (.inl rfl) (pe_callB (sorted_K (K := K) rfl) (by rfl) B.sorted (by decide +kernel) (pa_cons (pe_call G__law_pick (hr.mono (by first | decide | exact Nat.le_refl _ | omega)) (by rfl) C__law_pick.g C__law_pick.k C__law_pick.b .nil pass0 (pa_cons (pv 0) (pa_cons (pe_listRg rfl (by rfl) B.list (prg_2 (by rfl) B.range pe_int (pe_op (op_addK (K := K) rfl) (pv 1) pe_int))) (pa_cons (pe_op (op_addK (K := K) rfl) pe_int (pe_call G__law_take (hr.mono (by first | decide | exact Nat.le_refl _ | omega)) (by rfl) C__law_take.g C__law_take.k C__law_take.b .nil pass0 (pa_cons (pv 0) (pa_cons (pv 1) pa_nil)))) pa_nil)))) pa_nil)))
      (pss_one (ps_ret (pe_callTy (tup_K (K := K) rfl) (by rfl) B.tuple (by decide +kernel) (pa_cons (pv 2) pa_nil))))), ?_⟩)
  rintro O H u m ds σ Q ⟨W, rfl, hW1, hW3⟩ hu hU hm A k
  have hf : Fr [([u], H)] u := fun p hp => by rw [List.mem_singleton.mp hp]; exact .inl (List.mem_singleton.mpr rfl)
  have hrg : rgD 1 ((W : Int) + 1 - 1).toNat = ((List.range W).map fun i : Nat => 1 + (i : Int)).map .int := by
    rw [show ((W : Int) + 1 - 1).toNat = W by omega]
    unfold rgD
    rw [List.map_map]
    rfl
  refine s_seq (s_setU (i := 2) (kk := ((0 + ((0 + 1) + 0)) + 3) + 0) (Ok := fun d => ∃ ms : List Int, d = .list (ms.map .int) ∧ ms.length ≤ 3) (eu_cbN (OkA := fun l => ∃ ms : List Int, l = [.list (ms.map .int)] ∧ ms.length ≤ 3) (eua_is (eua_cons (eu_call (Pre := Pre_pick) (Post := Post_pick) (i := 0) rfl (eua_cons (eu_of (ee_range (ee_int 1) (ee_op (od_addI (K := K) _ _) (ee_var rfl) (ee_int 1)) (by omega) (by omega))) (eua_cons (eu_op (Ok := fun d => ∃ c : Nat, d = .int (c : Int) ∧ c ≤ 3) (eu_of (ee_int 1)) (eu_take (n := W) (i := 0) rfl (ee_var rfl) hW1 (by omega)) fun d1 d2 e1 ⟨r, e2, e3⟩ => ⟨.int (1 + (r : Int)), by rw [e1, e2]; exact od_addI _ _, 1 + r, by rfl, by omega⟩) eua_nil))
      fun ds ⟨d1, l1, e1, e2, d2, l2, e3, ⟨c, e4, e5⟩, e6⟩ => ⟨(List.range W).map fun i : Nat => 1 + (i : Int), c, by rw [e1, e2, e3, e4, e6, hrg], by rw [List.length_map, List.length_range]; exact hW3, e5⟩) eua_nil) fun l ⟨d1, l1, e1, ⟨_, _, ms, e2, e3⟩, e4⟩ => ⟨ms, by rw [e1, e2, e4], e3⟩)
      fun l ⟨ms, e1, e2⟩ => by
        rw [e1]
        intro O H vs hd hv Q q
        exact cdn_sorted (by omega) O H vs hd hv Q fun d v H2 ⟨ks, o1, o2⟩ => q d v H2 ⟨ks, o1, by omega⟩) A hu hf hU (by omega) fun d σ' H' ⟨ms, o1, o2⟩ A' U' => ?_)
  subst o1
  exact s_retE (ee_cb cd_tupL (ea_cons (ee_var rfl) ea_nil)) A' (U'.more (m' := m + 4) (by omega)) (by simp) fun v H6 e6 U6 h6 => k _ v H6 ⟨ms, rfl, o2⟩ e6 U6 h6
/-! ### naming -/
def Pre_naming (ds : List PyData) : Prop := ∃ W n : Nat, ds = [.int (W : Int), .int (n : Int)] ∧ 1 ≤ W ∧ W ≤ 3 ∧ 1 ≤ n ∧ n ≤ 3
def Post_naming (ds : List PyData) (d : PyData) : Prop := ∃ (W n : Nat) (N : Nm), ds = [.int (W : Int), .int (n : Int)] ∧ d = eNm N ∧ N ≠ [] ∧ N.length ≤ n ∧ ∀ pr ∈ N, pr.2.length ≤ 3
theorem nms_of : ∀ xs : List PyData, (∀ y ∈ xs, ∃ pr : Pr, y = ePr pr ∧ pr.2.length ≤ 3) → ∃ N : Nm, xs = N.map ePr ∧ ∀ pr ∈ N, pr.2.length ≤ 3
  | [], _ => ⟨[], rfl, fun _ h => by cases h⟩
  | y :: xs, h => by
    obtain ⟨N, h1, h2⟩ := nms_of xs fun z hz => h z (List.mem_cons_of_mem _ hz)
    obtain ⟨pr, rfl, hp⟩ := h y List.mem_cons_self
    refine ⟨pr :: N, by rw [h1]; rfl, fun b hb => ?_⟩
    rcases List.mem_cons.mp hb with e | e
    · rw [e]; exact hp
    · exact h2 b e
theorem ok_naming {f : Addr} {fd : FuncData} (B : Bl mg) {f__law_take : Addr} {fd__law_take : FuncData} (C__law_take : Cl K mg "_law_take" f__law_take fd__law_take ["_law_urn", "_law_low_so"]) (G__law_take : FnOk P w K mg base CX0 1 f__law_take fd__law_take ["_law_urn", "_law_low_so"] (FU 1 Pre_take Post_take)) {f__law_of : Addr} {fd__law_of : FuncData} (C__law_of : Cl K mg "_law_of" f__law_of fd__law_of ["_law_urn", "_law_some_so"]) (G__law_of : FnOk P w K mg base CX0 2 f__law_of fd__law_of ["_law_urn", "_law_some_so"] (FU 1 Pre_of Post_of))
    {f__law_letters_of : Addr} {fd__law_letters_of : FuncData} (C__law_letters_of : Cl K mg "_law_letters_of" f__law_letters_of fd__law_letters_of ["_law_urn", "_law_wide"]) (G__law_letters_of : FnOk P w K mg base CX0 3 f__law_letters_of fd__law_letters_of ["_law_urn", "_law_wide"] (FU 4 Pre_lets Post_lets)) (F : Fun K "_law_naming" "_law_naming" s__law_naming f fd) : FnOk P w K mg base CX0 4 f fd ["_law_urn", "_law_wide", "_law_most_so"] (FU 16 Pre_naming Post_naming) := by
  refine ok_fu F sc__law_naming (fun ds ⟨_, _, h, _⟩ => by rw [h]; rfl) (fun cdv A outer s H E hr => ⟨_, (pss_one (ps_ret (pe_callTy (tup_K (K := K) rfl) (by rfl) B.tuple (by decide +kernel) (pa_cons (pe_lc (own := [("_law_lap", 3)]) rfl sc__law_naming.nd (pi_range1 (by rfl) B.range (pa_cons (pe_op (op_addK (K := K) rfl) pe_int (pe_call G__law_take (hr.mono (by first | decide | exact Nat.le_refl _ | omega)) (by rfl) C__law_take.g C__law_take.k C__law_take.b .nil pass0 (pa_cons (pv 0) (pa_cons (pv 2) pa_nil)))) pa_nil)) (blkOk_by (N := ["_law_urn", "_law_wide", "_law_most_so", "_law_lap"]) (sc := (defScope s__law_naming)) (by decide +kernel)) (fun _ _ _ _ _ => (pg_name (i := 3) sc__law_naming.nd rfl (.inl rfl))) (fun _ _ _ _ _ => pts_nil) (fun _ _ _ _ _ => (pe_tup (pa_cons (pe_call G__law_of (hr.mono (by first | decide | exact Nat.le_refl _ | omega)) (by rfl) C__law_of.g C__law_of.k C__law_of.b .nil pass0 (pa_cons (pv 0) (pa_cons (pe_lst (pa_cons pe_str (pa_cons pe_str pa_nil))) pa_nil))) (pa_cons (pe_call G__law_letters_of (hr.mono (by first | decide | exact Nat.le_refl _ | omega)) (by rfl) C__law_letters_of.g C__law_letters_of.k C__law_letters_of.b .nil pass0 (pa_cons (pv 0) (pa_cons (pv 1) pa_nil))) pa_nil))))) pa_nil)))), ?_⟩)
  rintro O H u m ds σ Q ⟨W, n, rfl, hW1, hW3, hn1, hn3⟩ hu hU hm A k
  have hf : Fr [([u], H)] u := fun p hp => by rw [List.mem_singleton.mp hp]; exact .inl (List.mem_singleton.mpr rfl)
  refine s_retU (kk := ((0 + 1) + 0) + 3 * ((0 + 0) + 1 + ((0 + 0) + 4 + 0)) + 0) (Ok := fun d => ∃ N : Nm, d = eNm N ∧ N ≠ [] ∧ N.length ≤ n ∧ ∀ pr ∈ N, pr.2.length ≤ 3) (eu_cb (OkA := fun l => ∃ xs : List PyData, l = [.list xs] ∧ (1 ≤ xs.length ∧ xs.length ≤ n) ∧ ∀ y ∈ xs, ∃ pr : Pr, y = ePr pr ∧ pr.2.length ≤ 3) (eua_is (eua_cons (eu_lcR (x := 3) (M := 3) (OkN := fun j => 1 ≤ j ∧ j ≤ n) (Ok := fun y => ∃ pr : Pr, y = ePr pr ∧ pr.2.length ≤ 3) (Γ' := fun j => [.adr u, .dat (.int (W : Int)), .dat (.int (n : Int)), .dat (.int (0 + (j : Int)))])
      (eua_is (eua_cons (eu_op (Ok := fun d => ∃ c : Nat, d = .int (c : Int) ∧ 1 ≤ c ∧ c ≤ n) (eu_of (ee_int 1)) (eu_take (n := n) (i := 0) rfl (ee_var rfl) hn1 (by omega)) fun d1 d2 e1 ⟨r, e2, e3⟩ => ⟨.int (1 + (r : Int)), by rw [e1, e2]; exact od_addI _ _, 1 + r, by rfl, by omega, by omega⟩) eua_nil) fun l ⟨d, es, e1, ⟨r, e2, e3, e5⟩, e4⟩ => ⟨r, by rw [e1, e2, e4], by omega, e3, e5⟩) (by decide) (fun j => rfl)
      (fun j => eu_is (eu_tup (eua_cons (eu_call (Pre := Pre_of) (Post := Post_of) (i := 0) rfl (eua_cons (eu_of (ee_lst (ea_cons (ee_str "next") (ea_cons (ee_str "last") ea_nil)) (by show 2 ≤ 1000; decide))) eua_nil) fun ds ⟨d, es, e1, e2, e3⟩ => ⟨[.str "next", .str "last"], by rw [e1, e2, e3], by show 1 ≤ 2; decide, by show 2 ≤ 1000; decide⟩)
        (eua_cons (eu_call (Pre := Pre_lets) (Post := Post_lets) (i := 0) rfl (eua_cons (eu_of (ee_var rfl)) eua_nil) fun ds ⟨d, es, e1, e2, e3⟩ => ⟨W, by rw [e1, e2, e3], hW1, hW3⟩) eua_nil)) fun ds ⟨d, es, e1, _, d2, es2, e2, _, e3⟩ => by rw [e1, e2, e3]; show 2 ≤ 1000; decide)
        fun d ⟨ds, e0, d1, es, e1, ⟨l1, ⟨dd, es1, q1, q2, q3⟩, xs, q4, q5⟩, d2, es2, e2, ⟨_, _, ms, q6, q7⟩, e3⟩ => by
          subst e0 e1 e2 e3 q1 q2 q3 q6
          rw [List.cons.injEq, PyData.list.injEq] at q4
          rw [← q4.1] at q5
          rcases List.mem_cons.mp q5 with h | h
          · exact ⟨(true, ms), by rw [h]; rfl, q7⟩
          · exact ⟨(false, ms), by rw [List.mem_singleton.mp h]; rfl, q7⟩)) eua_nil) fun l ⟨d, es, e1, ⟨xs, e2, _, e5, e3⟩, e4⟩ => ⟨xs, by rw [e1, e2, e4], e5, e3⟩)
      fun l ⟨xs, e1, e5, e2⟩ => by
        obtain ⟨N, h1, h2⟩ := nms_of xs e2
        refine ⟨.tuple xs, by rw [e1]; exact cd_tupL, N, by rw [h1]; rfl, ?_, ?_, h2⟩
        · rintro rfl
          rw [h1] at e5
          exact absurd e5.1 (by decide)
        · rw [h1, List.length_map] at e5; exact e5.2) A hu hf hU (by omega) (by simp) fun d v H2 ⟨N, o1, o2, o3, o4⟩ e2 U2 h2 => k d v H2 ⟨W, n, N, rfl, o1, o2, o3, o4⟩ e2 (U2.more (by omega)) h2
end
end Nx
set_option maxHeartbeats 4000000
/-! the law's own defs, 2: what is told plainly -/
namespace Nx
open PySem PySem.Spec PyProof.Rows L2
/-! ### data that may be compared -/
def lay (n : Nat) (d : PyData) : Prop := d.canLay0 = true ∧ d.depth ≤ n
theorem lay_all {n : Nat} : ∀ {ds : List PyData}, (∀ d ∈ ds, lay n d) → PyData.canLayAll0 ds = true ∧ PyData.depthAll ds ≤ n
  | [], _ => ⟨by rw [PyData.canLayAll0], by rw [PyData.depthAll]; exact Nat.zero_le _⟩
  | d :: ds, h => by
    obtain ⟨h1, h2⟩ := lay_all fun x hx => h x (List.mem_cons_of_mem _ hx)
    obtain ⟨h3, h4⟩ := h d List.mem_cons_self
    rw [PyData.canLayAll0, PyData.depthAll, h1, h3]
    exact ⟨rfl, Nat.max_le.mpr ⟨h4, h2⟩⟩
theorem lay_list {n : Nat} {ds : List PyData} (h : ∀ d ∈ ds, lay n d) : lay (n + 1) (.list ds) := by
  obtain ⟨h1, h2⟩ := lay_all h
  refine ⟨by rw [PyData.canLay0]; exact h1, ?_⟩
  rw [PyData.depth]
  omega
theorem lay_tup {n : Nat} {ds : List PyData} (h : ∀ d ∈ ds, lay n d) : lay (n + 1) (.tuple ds) := by
  obtain ⟨h1, h2⟩ := lay_all h
  refine ⟨by rw [PyData.canLay0]; exact h1, ?_⟩
  rw [PyData.depth]
  omega
theorem lay_int (i : Int) : lay 0 (.int i) := ⟨by rw [PyData.canLay0], by rw [PyData.depth]; exact Nat.le_refl _⟩
theorem lay_str {x : Str} (h : PyData.canLay0 (.str x) = true) : lay 0 (.str x) := ⟨h, by rw [PyData.depth]; exact Nat.le_refl _⟩
theorem shaped_of {n : Nat} {d : PyData} (h : lay n d) (hn : n ≤ 64) : SeqAt.shaped d = true := by
  unfold SeqAt.shaped
  rw [h.1, decide_eq_true (Nat.le_trans h.2 hn)]
  rfl
theorem lay_tx (t : Tx) : lay 1 (eTx t) := lay_tup fun d hd => by
  obtain ⟨i, _, rfl⟩ := List.mem_map.mp hd
  exact lay_int i
theorem eqv_nil (xs : List PyData) : PyData.eqv (.list xs) (.list []) = xs.isEmpty := by
  rw [PyData.eqv]
  cases xs <;> rfl
theorem shaped_nil : SeqAt.shaped (.list []) = true := shaped_of (n := 1) (lay_list fun d hd => by cases hd) (by decide)
section
variable {Γ : List Slv} {te tj : TE} {K : PySem.W.Frag} {ds : List PyData}
theorem et_some (h : EE te Γ (.list ds)) (hs : SeqAt.shaped (.list ds) = true) : ET (tTest (tOp (rNeX K) te (tLst tNil))) Γ (!ds.isEmpty) := by
  rw [← eqv_nil]
  exact et_test (ee_op (od_neD hs shaped_nil) h (ee_lst ea_nil (by decide)))
theorem et_none (h : EE te Γ (.list ds)) (hs : SeqAt.shaped (.list ds) = true) : ET (tTest (tOp (rEqX K) te (tLst tNil))) Γ ds.isEmpty := by
  rw [← eqv_nil]
  exact et_test (ee_op (od_eqD hs shaped_nil) h (ee_lst ea_nil (by decide)))
end
theorem rgD_range' (lo n : Nat) : rgD (lo : Int) n = (List.range' lo n).map fun k : Nat => PyData.int (k : Int) := by
  unfold rgD
  rw [List.range'_eq_map_range, List.map_map]
  refine List.map_congr_left fun i _ => ?_
  show PyData.int ((lo : Int) + i) = PyData.int ((lo + i : Nat) : Int)
  rw [Int.natCast_add]
section
variable {P : Program} {w : World} {K : PySem.W.Frag} {mg : Str → Option Value} {base : Heap}
/-! ### lists -/
def listD : Nat → PyData → PyData
  | 0, x => x
  | n + 1, .list ds => .list (ds.map (listD n))
  | n + 1, .tuple ds => .list (ds.map (listD n))
  | _ + 1, x => x
def R_lists (n : Nat) (ds : List PyData) (d : PyData) : Prop := ∃ x, ds = [x] ∧ tree n x ∧ d = listD n x
theorem ok_lists {f : Addr} {fd : FuncData} (B : Bl mg) (F : Fun K "_law_lists" "_law_lists" s__law_lists f fd) (C__law_lists : Cl K mg "_law_lists" f fd ["_law_matter"]) : ∀ n, FnOk P w K mg base CX0 n f fd ["_law_matter"] (FD (R_lists n))
  | 0 => by
    refine ⟨fun vs H Q E h => ?_, fun A outer s H args us vs Q E hr hE hb hv h => ?_⟩
    · obtain ⟨O, ds, d, _, ha, ⟨x, hx, t, _⟩, _⟩ := h
      exact t.elim
    · obtain ⟨O, ds, d, _, ha, ⟨x, hx, t, _⟩, _⟩ := h
      exact t.elim
  | n + 1 => by
    have G__law_lists := ok_lists B F C__law_lists n
    refine ok_fd F sc__law_lists (fun ds d ⟨i, h, _⟩ => by rw [h]; rfl) (fun cdv A outer s H E hr => ⟨_, (pss_one (ps_ret (pe_ifExp (pt_val (pe_callB (isiT_K (K := K) rfl) (by rfl) B.isinstance (by decide +kernel) (pa_cons (pv 0) (pa_cons (pe_tup (pa_cons (pe_ty_list (by rfl) B.list) (pa_cons (pe_ty_tuple (by rfl) B.tuple) pa_nil))) pa_nil)))) (pe_lc (own := [("_law_bit", 1)]) rfl sc__law_lists.nd (PI.or (pi_list (pv 0)) (pi_tup (pv 0))) (blkOk_by (N := ["_law_matter", "_law_bit"]) (sc := (defScope s__law_lists)) (by decide +kernel)) (fun _ _ _ _ _ => (pg_name (i := 1) sc__law_lists.nd rfl (.inl rfl))) (fun _ _ _ _ _ => pts_nil) (fun _ _ _ _ _ => (pe_call G__law_lists (hr.mono (by first | decide | exact Nat.le_refl _ | omega)) (by rfl) C__law_lists.g C__law_lists.k C__law_lists.b .nil pass0 (pa_cons (pv 1) pa_nil)))) (pv 0)))), ?_⟩)
    rintro O H ds d σ Q ⟨x, rfl, ht, rfl⟩ A k
    cases x with
    | none => exact s_ret (ee_if (et_B (ee_isi2 (b1 := false) (b2 := false) (ee_var rfl) kb_NoneType_list kb_NoneType_tuple)) (fun h => nomatch h) fun _ => ee_var rfl) A k
    | bool b => exact s_ret (ee_if (et_B (ee_isi2 (b1 := false) (b2 := false) (ee_var rfl) kb_bool_list kb_bool_tuple)) (fun h => nomatch h) fun _ => ee_var rfl) A k
    | int b => exact s_ret (ee_if (et_B (ee_isi2 (b1 := false) (b2 := false) (ee_var rfl) kb_int_list kb_int_tuple)) (fun h => nomatch h) fun _ => ee_var rfl) A k
    | str b => exact s_ret (ee_if (et_B (ee_isi2 (b1 := false) (b2 := false) (ee_var rfl) kb_str_list kb_str_tuple)) (fun h => nomatch h) fun _ => ee_var rfl) A k
    | dict b => exact ht.elim
    | list ds =>
      have h1 : ds.length ≤ 1000 := ht.1
      exact s_ret (ee_if (et_B (ee_isi2 (b1 := true) (b2 := false) (ee_var rfl) kb_list_list kb_list_tuple)) (fun _ => ee_lcY ds id (listD n) (fun x => [.dat _, .dat x]) (EI.l (ei_list (by rw [List.map_id]; exact ee_var rfl))) (by omega) (fun x hx => gt_name (by decide)) (fun x hx => ee_call (FD.pd ⟨x, rfl, ht.2 x hx, rfl⟩) (ea_cons (ee_var rfl) ea_nil))) (fun h => nomatch h)) A k
    | tuple ds =>
      have h1 : ds.length ≤ 1000 := ht.1
      exact s_ret (ee_if (et_B (ee_isi2 (b1 := false) (b2 := true) (ee_var rfl) kb_tuple_list kb_tuple_tuple)) (fun _ => ee_lcY ds id (listD n) (fun x => [.dat _, .dat x]) (EI.r (ei_tup (by rw [List.map_id]; exact ee_var rfl))) (by omega) (fun x hx => gt_name (by decide)) (fun x hx => ee_call (FD.pd ⟨x, rfl, ht.2 x hx, rfl⟩) (ea_cons (ee_var rfl) ea_nil))) (fun h => nomatch h)) A k
/-! ### same -/
def R_same (n : Nat) (ds : List PyData) (d : PyData) : Prop := ∃ x, ds = [x, x] ∧ tree n x ∧ d = .bool true
theorem zip_self (ds : List PyData) : List.zipWith pairD ds ds = ds.map fun d => pairD d d := by
  induction ds with
  | nil => rfl
  | cons a l ih => rw [List.zipWith_cons_cons, ih]; rfl
theorem ok_same {f : Addr} {fd : FuncData} (B : Bl mg) (F : Fun K "_law_same" "_law_same" s__law_same f fd) (C__law_same : Cl K mg "_law_same" f fd ["_law_near", "_law_goal"]) : ∀ n, FnOk P w K mg base CX0 n f fd ["_law_near", "_law_goal"] (FD (R_same n))
  | 0 => by
    refine ⟨fun vs H Q E h => ?_, fun A outer s H args us vs Q E hr hE hb hv h => ?_⟩
    · obtain ⟨O, ds, d, _, ha, ⟨x, hx, t, _⟩, _⟩ := h
      exact t.elim
    · obtain ⟨O, ds, d, _, ha, ⟨x, hx, t, _⟩, _⟩ := h
      exact t.elim
  | n + 1 => by
    have G__law_same := ok_same B F C__law_same n
    refine ok_fd F sc__law_same (fun ds d ⟨i, h, _⟩ => by rw [h]; rfl) (fun cdv A outer s H E hr => ⟨_, (pss_cons (ps_if (pt_val (pe_callB (isiT_K (K := K) rfl) (by rfl) B.isinstance (by decide +kernel) (pa_cons (pv 1) (pa_cons (pe_tup (pa_cons (pe_ty_list (by rfl) B.list) (pa_cons (pe_ty_tuple (by rfl) B.tuple) pa_nil))) pa_nil)))) (pss_cons (ps_if (PW.pt (pw_or (pt_cmpR op_ne (pe_callB (isi_K (K := K) rfl) (by rfl) B.isinstance (by decide +kernel) (pa_cons (pv 0) (pa_cons (pe_ty_list (by rfl) B.list) pa_nil))) (pe_callB (isi_K (K := K) rfl) (by rfl) B.isinstance (by decide +kernel) (pa_cons (pv 1) (pa_cons (pe_ty_list (by rfl) B.list) pa_nil))) (nomark _)) (pw_or1 (pt_cmpR op_ne (pe_callB (isi_K (K := K) rfl) (by rfl) B.isinstance (by decide +kernel) (pa_cons (pv 0) (pa_cons (pe_ty_tuple (by rfl) B.tuple) pa_nil))) (pe_callB (isi_K (K := K) rfl) (by rfl) B.isinstance (by decide +kernel) (pa_cons (pv 1) (pa_cons (pe_ty_tuple (by rfl) B.tuple) pa_nil))) (nomark _))))) (pss_one (ps_ret pe_bl)) pss_nil)
      (pss_one (ps_ret (pe_and (pe_cmpR op_eq (pe_callB (len_K (K := K) rfl) (by rfl) B.len PySem.boot_len (pa_cons (pv 0) pa_nil)) (pe_callB (len_K (K := K) rfl) (by rfl) B.len PySem.boot_len (pa_cons (pv 1) pa_nil)) (nomark _)) (pe_one (pe_callB (all_K (K := K) rfl rfl) (by rfl) B.all (by decide +kernel) (pa_cons (pe_lc (own := [("_law_mine_so", 2), ("_law_own", 3)]) rfl sc__law_same.nd (pi_zipK (K := K) rfl (by rfl) B.zip (pa_cons (pv 0) (pa_cons (pv 1) pa_nil))) (blkOk_by (N := ["_law_near", "_law_goal", "_law_mine_so", "_law_own"]) (sc := (defScope s__law_same)) (by decide +kernel)) (fun _ _ _ _ _ => (pg_tupK (K := K) (n := 2) rfl rfl (pgs_cons (pg_name (i := 2) sc__law_same.nd rfl (.inl rfl)) (pgs_cons (pg_name (i := 3) sc__law_same.nd rfl (.inl rfl)) pgs_nil)))) (fun _ _ _ _ _ => pts_nil) (fun _ _ _ _ _ => (pe_call G__law_same (hr.mono (by first | decide | exact Nat.le_refl _ | omega)) (by rfl) C__law_same.g C__law_same.k C__law_same.b .nil pass0 (pa_cons (pv 2) (pa_cons (pv 3) pa_nil))))) pa_nil))))))) pss_nil)
      (pss_cons (ps_if (PW.pt (pw_or (pt_cmp (pc_isN (pv 1))) (pw_or1 (pt_val (pe_callB (isiT_K (K := K) rfl) (by rfl) B.isinstance (by decide +kernel) (pa_cons (pv 1) (pa_cons (pe_tup (pa_cons (pe_ty_bool (by rfl) B.bool) (pa_cons (pe_ty_str (by rfl) B.str) pa_nil))) pa_nil))))))) (pss_one (ps_ret (pe_and (pe_cmpR op_eq (pv 0) (pv 1) (nomark _)) (pe_and (pe_cmpR op_eq (pe_callB (isi_K (K := K) rfl) (by rfl) B.isinstance (by decide +kernel) (pa_cons (pv 0) (pa_cons (pe_ty_bool (by rfl) B.bool) pa_nil))) (pe_callB (isi_K (K := K) rfl) (by rfl) B.isinstance (by decide +kernel) (pa_cons (pv 1) (pa_cons (pe_ty_bool (by rfl) B.bool) pa_nil))) (nomark _)) (pe_one (pe_cmpR op_eq (pe_cmp (pc_isN (pv 0))) (pe_cmp (pc_isN (pv 1))) (nomark _))))))) pss_nil)
      (pss_one (ps_ret (pe_and (pe_callB (isi_K (K := K) rfl) (by rfl) B.isinstance (by decide +kernel) (pa_cons (pv 0) (pa_cons (pe_ty_int (by rfl) B.int) pa_nil))) (pe_and (pe_not (pe_callB (isi_K (K := K) rfl) (by rfl) B.isinstance (by decide +kernel) (pa_cons (pv 0) (pa_cons (pe_ty_bool (by rfl) B.bool) pa_nil)))) (pe_one (pe_cmpR op_eq (pv 0) (pv 1) (nomark _))))))))), ?_⟩)
    rintro O H ds d σ Q ⟨x, rfl, ht, rfl⟩ A k
    refine s_seq ?_
    have allT : ∀ ds : List PyData, (ds.map fun _ => true).all id = true := fun ds => by rw [List.all_map, List.all_eq_true]; intro _ _; rfl
    have hml : ∀ ds : List PyData, (ds.map fun _ => PyData.bool true) = (ds.map fun _ => true).map .bool := fun ds => by rw [List.map_map]; rfl
    cases x with
    | dict b => exact ht.elim
    | list ds =>
      have h1 : ds.length ≤ 1000 := ht.1
      refine s_if (et_B (ee_isi2 (b1 := true) (b2 := false) (ee_var rfl) kb_list_list kb_list_tuple)) A (fun _ H1 e1 A1 => ?_) (fun h => nomatch h)
      refine s_seq (s_if (b := false) (et_is (et_or (et_test (ee_op (od_neB true true) (ee_isi (ee_var rfl) kb_list_list) (ee_isi (ee_var rfl) kb_list_list))) (fun _ => et_test (ee_op (od_neB false false) (ee_isi (ee_var rfl) kb_list_tuple) (ee_isi (ee_var rfl) kb_list_tuple)))) rfl) A1 (fun h => nomatch h) (fun _ H2 e2 A2 => ?_))
      refine s_next (s_retQ (H0 := H) (ee_sc (ee_andV (a := true) (b := true) (ee_sc (ee_op (od_eqI _ _) (ee_lenL (ee_var rfl)) (ee_lenL (ee_var rfl))) (by simp)) (fun _ => ee_sc (ee_cb cd_all (ea_cons (ee_sc (ee_lcY ds (fun d => pairD d d) (fun _ => .bool true) (fun d => [.dat (.list ds), .dat (.list ds), .dat d, .dat d]) (by rw [← zip_self]; exact ei_zipL (ea_cons (ee_var rfl) (ea_cons (ee_var rfl) ea_nil))) (by omega) (fun x hx => gt_tup (gts_cons (gt_name (by decide)) (gts_cons (gt_name (by decide)) gts_nil)) rfl)
        (fun x hx => ee_call (FD.pd ⟨x, rfl, ht.2 x hx, rfl⟩) (ea_cons (ee_var rfl) (ea_cons (ee_var rfl) ea_nil)))) (congrArg PyData.list (hml ds))) ea_nil)) (by rw [allT]))) rfl) A2 (by simp) k)
    | tuple ds =>
      have h1 : ds.length ≤ 1000 := ht.1
      refine s_if (et_B (ee_isi2 (b1 := false) (b2 := true) (ee_var rfl) kb_tuple_list kb_tuple_tuple)) A (fun _ H1 e1 A1 => ?_) (fun h => nomatch h)
      refine s_seq (s_if (b := false) (et_is (et_or (et_test (ee_op (od_neB false false) (ee_isi (ee_var rfl) kb_tuple_list) (ee_isi (ee_var rfl) kb_tuple_list))) (fun _ => et_test (ee_op (od_neB true true) (ee_isi (ee_var rfl) kb_tuple_tuple) (ee_isi (ee_var rfl) kb_tuple_tuple)))) rfl) A1 (fun h => nomatch h) (fun _ H2 e2 A2 => ?_))
      refine s_next (s_retQ (H0 := H) (ee_sc (ee_andV (a := true) (b := true) (ee_sc (ee_op (od_eqI _ _) (ee_lenT (ee_var rfl)) (ee_lenT (ee_var rfl))) (by simp)) (fun _ => ee_sc (ee_cb cd_all (ea_cons (ee_sc (ee_lcY ds (fun d => pairD d d) (fun _ => .bool true) (fun d => [.dat (.tuple ds), .dat (.tuple ds), .dat d, .dat d]) (by rw [← zip_self]; exact ei_zipT (ea_cons (ee_var rfl) (ea_cons (ee_var rfl) ea_nil))) (by omega) (fun x hx => gt_tup (gts_cons (gt_name (by decide)) (gts_cons (gt_name (by decide)) gts_nil)) rfl)
        (fun x hx => ee_call (FD.pd ⟨x, rfl, ht.2 x hx, rfl⟩) (ea_cons (ee_var rfl) (ea_cons (ee_var rfl) ea_nil)))) (congrArg PyData.list (hml ds))) ea_nil)) (by rw [allT]))) rfl) A2 (by simp) k)
    | none =>
      refine s_if (et_B (ee_isi2 (b1 := false) (b2 := false) (ee_var rfl) kb_NoneType_list kb_NoneType_tuple)) A (fun h => nomatch h) (fun _ H1 e1 A1 => s_next (s_seq ?_))
      refine s_if (b := true) (et_is (et_or (a := true) (b := true) (et_B (ee_isN (d := .none) (ee_var rfl))) (fun h => nomatch h)) rfl) A1 (fun _ H2 e2 A2 => ?_) (fun h => nomatch h)
      exact s_retQ (H0 := H) (ee_sc (ee_andV (a := true) (b := true) (ee_sc (ee_op (od_eq (d1 := .none) (d2 := .none) rfl rfl rfl) (ee_var rfl) (ee_var rfl)) (by simp)) (fun _ => ee_sc (ee_andV (a := true) (b := true) (ee_sc (ee_op (od_eqB false false) (ee_isi (ee_var rfl) kb_NoneType_bool) (ee_isi (ee_var rfl) kb_NoneType_bool)) rfl) (fun _ => ee_sc (ee_op (od_eqB true true) (ee_isN (d := .none) (ee_var rfl)) (ee_isN (d := .none) (ee_var rfl))) rfl)) rfl)) rfl) A2 (by simp) k
    | bool b =>
      refine s_if (et_B (ee_isi2 (b1 := false) (b2 := false) (ee_var rfl) kb_bool_list kb_bool_tuple)) A (fun h => nomatch h) (fun _ H1 e1 A1 => s_next (s_seq ?_))
      refine s_if (b := true) (et_is (et_or (a := false) (b := true) (et_B (ee_isN (d := .bool b) (ee_var rfl))) (fun _ => et_B (ee_isi2 (b1 := true) (b2 := false) (ee_var rfl) kb_bool_bool kb_bool_str))) rfl) A1 (fun _ H2 e2 A2 => ?_) (fun h => nomatch h)
      exact s_retQ (H0 := H) (ee_sc (ee_andV (a := true) (b := true) (ee_sc (ee_op (od_eqB b b) (ee_var rfl) (ee_var rfl)) (by simp)) (fun _ => ee_sc (ee_andV (a := true) (b := true) (ee_sc (ee_op (od_eqB true true) (ee_isi (ee_var rfl) kb_bool_bool) (ee_isi (ee_var rfl) kb_bool_bool)) rfl) (fun _ => ee_sc (ee_op (od_eqB false false) (ee_isN (d := .bool b) (ee_var rfl)) (ee_isN (d := .bool b) (ee_var rfl))) rfl)) rfl)) rfl) A2 (by simp) k
    | str b =>
      refine s_if (et_B (ee_isi2 (b1 := false) (b2 := false) (ee_var rfl) kb_str_list kb_str_tuple)) A (fun h => nomatch h) (fun _ H1 e1 A1 => s_next (s_seq ?_))
      refine s_if (b := true) (et_is (et_or (a := false) (b := true) (et_B (ee_isN (d := .str b) (ee_var rfl))) (fun _ => et_B (ee_isi2 (b1 := false) (b2 := true) (ee_var rfl) kb_str_bool kb_str_str))) rfl) A1 (fun _ H2 e2 A2 => ?_) (fun h => nomatch h)
      exact s_retQ (H0 := H) (ee_sc (ee_andV (a := true) (b := true) (ee_sc (ee_op (od_eqS b b) (ee_var rfl) (ee_var rfl)) (by simp)) (fun _ => ee_sc (ee_andV (a := true) (b := true) (ee_sc (ee_op (od_eqB false false) (ee_isi (ee_var rfl) kb_str_bool) (ee_isi (ee_var rfl) kb_str_bool)) rfl) (fun _ => ee_sc (ee_op (od_eqB false false) (ee_isN (d := .str b) (ee_var rfl)) (ee_isN (d := .str b) (ee_var rfl))) rfl)) rfl)) rfl) A2 (by simp) k
    | int b =>
      refine s_if (et_B (ee_isi2 (b1 := false) (b2 := false) (ee_var rfl) kb_int_list kb_int_tuple)) A (fun h => nomatch h) (fun _ H1 e1 A1 => s_next (s_seq ?_))
      refine s_if (b := false) (et_is (et_or (a := false) (b := false) (et_B (ee_isN (d := .int b) (ee_var rfl))) (fun _ => et_B (ee_isi2 (b1 := false) (b2 := false) (ee_var rfl) kb_int_bool kb_int_str))) rfl) A1 (fun h => nomatch h) (fun _ H2 e2 A2 => s_next ?_)
      exact s_retQ (H0 := H) (ee_sc (ee_andV (a := true) (b := true) (ee_isi (ee_var rfl) kb_int_int) (fun _ => ee_sc (ee_andV (a := true) (b := true) (ee_notV (a := false) (ee_isi (ee_var rfl) kb_int_bool)) (fun _ => ee_sc (ee_op (od_eqI b b) (ee_var rfl) (ee_var rfl)) (by simp))) rfl)) rfl) A2 (by simp) k
end
end Nx
set_option maxHeartbeats 4000000
/-! the law's own defs, 3: little texts, plain naming -/
namespace Nx
open PySem PySem.Spec PyProof.Rows L2
/-! ### sizes -/
theorem flat_const {α β : Type} {f : α → List β} {c : Nat} (h : ∀ x, (f x).length = c) : ∀ l : List α, (l.flatMap f).length = l.length * c
  | [] => by simp
  | a :: l => by rw [List.flatMap_cons, List.length_append, flat_const h l, h a, List.length_cons, Nat.succ_mul, Nat.add_comm]
theorem edge_len (W : Nat) : ∀ k, (edge W k).length = W ^ k
  | 0 => rfl
  | k + 1 => by rw [edge, flat_const (c := W) (fun x => by rw [List.length_map, List.length_range']), edge_len W k, Nat.pow_succ]
theorem words_len {W : Nat} (hW : 1 ≤ W) : ∀ k, (words W k).length ≤ (k + 1) * W ^ k
  | 0 => by show 1 ≤ _; simp
  | k + 1 => by
    rw [words, List.length_append, edge_len, Nat.succ_mul]
    have h1 := words_len hW k
    have h2 : (k + 1) * W ^ k ≤ (k + 1) * W ^ (k + 1) := Nat.mul_le_mul_left _ (Nat.pow_le_pow_right hW (by omega))
    omega
theorem pow_small {W k : Nat} (hW : 1 ≤ W) (hW3 : W ≤ 3) (hk : k ≤ 6) : W ^ k ≤ 729 := Nat.le_trans (Nat.pow_le_pow_left hW3 k) (Nat.le_trans (Nat.pow_le_pow_right (by decide) hk) (by decide))
theorem words_small {W k : Nat} (hW : 1 ≤ W) (hW3 : W ≤ 3) (hk : k ≤ 6) : (words W k).length ≤ 5103 := by
  have h1 := words_len hW k
  have h2 := Nat.mul_le_mul (show k + 1 ≤ 7 by omega) (pow_small hW hW3 hk)
  omega
theorem goes_app (w : Tx) : ∀ (l : List Pr) (x : Pr) (p : Nat), goes w (l ++ [x]) p = ask w x (goes w l p)
  | [], x, p => rfl
  | a :: l, x, p => goes_app w l x (ask w a p)
section
variable {P : Program} {w : World} {K : PySem.W.Frag} {mg : Str → Option Value} {base : Heap}
/-! ### words -/
def nextW (W : Nat) (x : Tx) : List Tx := (List.range' 1 W).map fun s : Nat => x ++ [(s : Int)]
theorem edge_next (W k : Nat) : edge W (k + 1) = (edge W k).flatMap (nextW W) := rfl
def R_words (ds : List PyData) (d : PyData) : Prop := ∃ W k : Nat, ds = [.int (W : Int), .int (k : Int)] ∧ 1 ≤ W ∧ W ≤ 3 ∧ k ≤ 6 ∧ d = .list ((words W k).map eTx)
theorem ok_words {f : Addr} {fd : FuncData} (B : Bl mg) (F : Fun K "_law_words" "_law_words" s__law_words f fd) : FnOk P w K mg base CX0 1 f fd ["_law_wide", "_law_most_so"] (FD R_words) := by
  refine ok_fd F sc__law_words (fun ds d ⟨_, _, h, _⟩ => by rw [h]; rfl) (fun cdv A outer s H E hr => ⟨_, (pss_cons (ps_par (i := 2) (j := 3) rfl sc__law_words.nd rfl rfl (by decide) rfl rfl (pa_cons (pe_lst (pa_cons (pe_tup pa_nil) pa_nil)) (pa_cons (pe_lst (pa_cons (pe_tup pa_nil) pa_nil)) pa_nil)) rfl)
      (pss_cons (ps_for PassesOwn.never rfl (pi_range1 (by rfl) B.range (pa_cons (pv 1) pa_nil)) (pg_name (i := 4) sc__law_words.nd rfl (.inl rfl)) (pss_cons (ps_set (i := 5) sc__law_words.nd rfl (.inl rfl) (pe_lst pa_nil))
      (pss_cons (ps_for PassesOwn.never rfl (pi_listK (K := K) rfl (pv 3)) (pg_name (i := 6) sc__law_words.nd rfl (.inr rfl)) (pss_one (ps_set (i := 5) sc__law_words.nd rfl (.inl rfl) (pe_op (op_addK (K := K) rfl) (pv 5) (pe_lc (own := [("_law_s", 7)]) rfl sc__law_words.nd (pi_range2 (by rfl) B.range (pa_cons pe_int (pa_cons (pe_op (op_addK (K := K) rfl) (pv 0) pe_int) pa_nil))) (blkOk_by (N := ["_law_wide", "_law_most_so", "_law_found_so", "_law_edge", "_law_lap", "_law_later", "_law_own", "_law_s"]) (sc := (defScope s__law_words)) (by decide +kernel)) (fun _ _ _ _ _ => (pg_name (i := 7) sc__law_words.nd rfl (.inl rfl))) (fun _ _ _ _ _ => pts_nil) (fun _ _ _ _ _ => (pe_op (op_addK (K := K) rfl) (pv 6) (pe_tup (pa_cons (pv 7) pa_nil)))))))))
      (pss_one (ps_par (i := 3) (j := 2) rfl sc__law_words.nd rfl rfl (by decide) rfl rfl (pa_cons (pv 5) (pa_cons (pe_op (op_addK (K := K) rfl) (pv 2) (pv 5)) pa_nil)) rfl)))))
      (pss_one (ps_ret (pv 2))))), ?_⟩)
  rintro O H ds d σ Q ⟨W, n, rfl, hW1, hW3, hn, rfl⟩ A k
  have e0 : EE (tLst (tCons (tTup tNil) tNil)) (initG ["_law_wide", "_law_most_so", "_law_found_so", "_law_edge", "_law_lap", "_law_later", "_law_own", "_law_s"] [.int (W : Int), .int (n : Int)]) (.list [eTx []]) := ee_lst (ea_cons (ee_tup ea_nil (by decide)) ea_nil) (by show 1 ≤ 1000; decide)
  refine s_seq (s_par (ea_cons e0 (ea_cons e0 ea_nil)) A fun σ1 H1 A1 => ?_)
  refine s_seq (s_for (ei_rng1 (n := (n : Int)) (ea_cons (ee_var rfl) ea_nil) (by omega) (by omega)) A1 (fun i Γ' => ∃ x4 x5 x6, Γ' = [.dat (.int (W : Int)), .dat (.int (n : Int)), .dat (.list ((words W i).map eTx)), .dat (.list ((edge W i).map eTx)), x4, x5, x6, .unk]) ⟨_, _, _, rfl⟩ ?_ ?_)
  · rintro i d Γ' Bs' σ2 H2 hd ⟨x4, x5, x6, rfl⟩ hB A2 xv hxv
    have hi : i < n := by
      have := (List.getElem?_eq_some_iff.mp hd).1
      rw [rgD_len] at this
      omega
    refine g_at (vs := [4]) (gt_name (by decide)) A2 hxv fun σ3 A3 => ?_
    refine s_seq (s_set (d := .list []) (ee_lst ea_nil (by decide)) A3 fun σ4 H4 A4 => ?_)
    have hel : (edge W (i + 1)).length ≤ 729 := by rw [edge_len]; exact pow_small hW1 hW3 (by omega)
    refine s_seq (s_for (ei_list (ds := (edge W i).map eTx) (ee_var rfl)) A4 (fun j Γ' => ∃ x6, Γ' = [.dat (.int (W : Int)), .dat (.int (n : Int)), .dat (.list ((words W i).map eTx)), .dat (.list ((edge W i).map eTx)), .dat d, .dat (.list ((((edge W i).take j).flatMap (nextW W)).map eTx)), x6, .unk]) ⟨_, rfl⟩ ?_ ?_)
    · rintro j d2 Γ' Bs2 σ5 H5 hd2 ⟨x6, rfl⟩ hB2 A5 yv hyv
      rw [List.getElem?_map] at hd2
      cases ht : (edge W i)[j]? with
      | none => rw [ht] at hd2; cases hd2
      | some x =>
        rw [ht] at hd2
        cases hd2
        refine g_at (vs := [6]) (gt_name (by decide)) A5 hyv fun σ6 A6 => ?_
        have hft := flat_take (nextW W) ht
        have hfl : (((edge W i).take j).flatMap (nextW W)).length + (nextW W x).length ≤ 729 := Nat.le_trans (flat_size (nextW W) ht) hel
        have hxl : x.length ≤ 10 := by
          have := (mem_edge.mp (List.mem_of_getElem? ht)).2
          omega
        have hW : (nextW W x).length = W := by unfold nextW; rw [List.length_map, List.length_range']
        refine s_set (ee_sc (ee_op (od_addL (by rw [List.length_map, List.length_map, List.length_range']; omega)) (ee_var rfl) (ee_lcY (List.range' 1 W) (fun s : Nat => .int (s : Int)) (fun s => eTx (x ++ [(s : Int)])) (fun s => [.dat (.int (W : Int)), .dat (.int (n : Int)), .dat (.list ((words W i).map eTx)), .dat (.list ((edge W i).map eTx)), .dat d, .dat (.list ((((edge W i).take j).flatMap (nextW W)).map eTx)), .dat (eTx x), .dat (.int (s : Nat))])
          (by
            have := ei_rng2 (ea_cons (ee_int 1) (ea_cons (ee_op (od_addI (K := K) (W : Int) 1) (ee_var (Γ := [.dat (.int (W : Int)), .dat (.int (n : Int)), .dat (.list ((words W i).map eTx)), .dat (.list ((edge W i).map eTx)), .dat d, .dat (.list ((((edge W i).take j).flatMap (nextW W)).map eTx)), .dat (eTx x), .unk]) (i := 0) rfl) (ee_int 1)) ea_nil)) (by omega)
            rw [show ((W : Int) + 1 - 1).toNat = W by omega, show (1 : Int) = ((1 : Nat) : Int) from rfl, rgD_range'] at this
            exact this) (by rw [List.length_range']; omega) (fun s h => gt_name (by decide)) (fun s h => ee_sc (ee_op (od_addT (by rw [List.length_map]; show x.length + 1 ≤ 1000000; omega)) (ee_var rfl) (ee_tup (ea_cons (ee_var rfl) ea_nil) (by show 1 ≤ 1000; decide))) (by unfold eTx; rw [List.map_append]; rfl)))) (d2 := .list ((((edge W i).take (j + 1)).flatMap (nextW W)).map eTx)) (by
            rw [hft, List.map_append]
            unfold nextW
            rw [List.map_map]
            rfl)) A6 fun σ7 H7 A7 => ⟨_, ⟨_, rfl⟩, A7⟩
    · rintro Γ' σ5 H5 ⟨x6, rfl⟩ A5
      rw [List.length_map, List.take_length] at A5
      have hwl := words_small hW1 hW3 (show i ≤ 6 by omega)
      have hel' : ((edge W i).flatMap (nextW W)).length ≤ 729 := hel
      refine s_par (d2 := .list ((words W (i + 1)).map eTx)) (ea_cons (ee_var rfl) (ea_cons (ee_sc (ee_op (od_addL (by rw [List.length_map, List.length_map]; omega)) (ee_var rfl) (ee_var rfl)) (by rw [words, List.map_append]; rfl)) ea_nil)) A5 fun σ6 H6 A6 => ⟨_, ⟨_, _, _, rfl⟩, A6⟩
  · rintro Γ' σ2 H2 ⟨x4, x5, x6, rfl⟩ A2
    rw [rgD_len, Int.toNat_natCast] at A2
    exact s_retQ (H0 := H) (ee_var rfl) A2 (by simp) k
/-! ### found -/
theorem hit_nat (w : Tx) (L : List Int) (k : Nat) : decide (w.getD (k - 1) 0 ∈ L) = hit w L k := rfl
def R_found (ds : List PyData) (d : PyData) : Prop := ∃ (w : Tx) (p : Nat) (b : Bool) (L : List Int), ds = [eTx w, .int (p : Int), eSide b, .tuple (L.map .int)] ∧ p ≤ w.length + 1 ∧ w.length ≤ 1000 ∧ d = .int (ask w (b, L) p : Nat)
theorem ok_found {f : Addr} {fd : FuncData} (B : Bl mg) (F : Fun K "_law_found" "_law_found" s__law_found f fd) : FnOk P w K mg base CX0 1 f fd ["_law_word_so", "_law_place_so", "_law_side", "_law_letters_so"] (FD R_found) := by
  refine ok_fd F sc__law_found (fun ds d ⟨_, _, _, _, h, _⟩ => by rw [h]; rfl) (fun cdv A outer s H E hr => ⟨_, (pss_cons (ps_if (pt_cmpR op_eq (pv 2) pe_str (nomark _)) (pss_cons (ps_setLc (i := 4) (own := [("_law_k", 5)]) rfl sc__law_found.nd rfl rfl (sw_true rfl rfl rfl (by decide +kernel)) (pi_range2 (by rfl) B.range (pa_cons (pe_op (op_addK (K := K) rfl) (pv 1) pe_int) (pa_cons (pe_op (op_addK (K := K) rfl) (pe_callB (len_K (K := K) rfl) (by rfl) B.len PySem.boot_len (pa_cons (pv 0) pa_nil)) pe_int) pa_nil))) (blkOk_by (N := ["_law_word_so", "_law_place_so", "_law_side", "_law_letters_so", "_law_places_so", "_law_k"]) (sc := (defScope s__law_found)) (by decide +kernel)) (fun _ _ _ _ _ => (pg_name (i := 5) sc__law_found.nd rfl (.inl rfl))) (fun _ _ _ _ _ => (pts_one (pt_cmpR (op_inK (K := K) rfl) (pe_ix (ix_seqK (K := K) rfl) (pv 0) (pe_op op_sub (pv 5) pe_int) (fun _ _ => rfl)) (pv 3) (by rfl)))) (fun _ _ _ _ _ => (pv 5)))
      (pss_one (ps_ret (pe_ifExp (pt_cmpR (op_neK (K := K) rfl hr.units) (pv 4) (pe_lst pa_nil) (nomark _)) (pe_ix (ix_seqK (K := K) rfl) (pv 4) pe_int (fun _ _ => rfl)) (pe_op (op_addK (K := K) rfl) (pe_callB (len_K (K := K) rfl) (by rfl) B.len PySem.boot_len (pa_cons (pv 0) pa_nil)) pe_int))))) pss_nil)
      (pss_cons (ps_setLc (i := 4) (own := [("_law_k", 5)]) rfl sc__law_found.nd rfl rfl (sw_true rfl rfl rfl (by decide +kernel)) (pi_range2 (by rfl) B.range (pa_cons pe_int (pa_cons (pv 1) pa_nil))) (blkOk_by (N := ["_law_word_so", "_law_place_so", "_law_side", "_law_letters_so", "_law_places_so", "_law_k"]) (sc := (defScope s__law_found)) (by decide +kernel)) (fun _ _ _ _ _ => (pg_name (i := 5) sc__law_found.nd rfl (.inl rfl))) (fun _ _ _ _ _ => (pts_one (pt_cmpR (op_inK (K := K) rfl) (pe_ix (ix_seqK (K := K) rfl) (pv 0) (pe_op op_sub (pv 5) pe_int) (fun _ _ => rfl)) (pv 3) (by rfl)))) (fun _ _ _ _ _ => (pv 5)))
      (pss_one (ps_ret (pe_ifExp (pt_cmpR (op_neK (K := K) rfl hr.units) (pv 4) (pe_lst pa_nil) (nomark _)) (pe_ix (ix_seqK (K := K) rfl) (pv 4) (pe_un un_neg pe_int) (fun _ _ => rfl)) pe_int))))), ?_⟩)
  rintro O H ds d σ Q ⟨t, p, b, L, rfl, hp, htl, rfl⟩ A k
  have hlist : ∀ {ta : TA} {lo n : Nat}, EI (iRng2 ta) (initG ["_law_word_so", "_law_place_so", "_law_side", "_law_letters_so", "_law_places_so", "_law_k"] [eTx t, .int (p : Int), eSide b, .tuple (L.map .int)]) (rgD (lo : Int) n) → 1 ≤ lo → lo + n ≤ t.length + 1 → EE (tLc (iRng2 ta) (gName 5) (tTest (tOp (rIn K false) (tOp (rIx K) (tVar 0) (tOp (rI0 fun i j => .int (i - j)) (tVar 5) (tC (.int 1)))) (tVar 3))) (tVar 5) [5])
      (initG ["_law_word_so", "_law_place_so", "_law_side", "_law_letters_so", "_law_places_so", "_law_k"] [eTx t, .int (p : Int), eSide b, .tuple (L.map .int)]) (.list ((cand t L lo n).map fun k : Nat => .int (k : Int))) := fun {ta lo n} hi h1 h2 =>
    ee_lc (List.range' lo n) (fun k : Nat => .int (k : Int)) (hit t L) (fun k : Nat => .int (k : Int)) (fun k => [.dat (eTx t), .dat (.int (p : Int)), .dat (eSide b), .dat (.tuple (L.map .int)), .unk, .dat (.int (k : Nat))]) (by rw [← rgD_range']; exact hi) (by rw [List.length_range']; omega) (fun k h => gt_name (by decide))
      (fun k h => by
        have hk := List.mem_range'_1.mp h
        exact et_test (ee_op (od_letter (t.getD (k - 1) 0) L) (ee_op (od_ix_t (tx_ix (by omega))) (ee_var rfl) (ee_pred (by omega) (ee_var rfl))) (ee_var rfl))) (fun k h _ => ee_var rfl)
  have hsh : ∀ {lo n : Nat}, SeqAt.shaped (.list ((cand t L lo n).map fun k : Nat => PyData.int (k : Int))) = true := fun {lo n} => shaped_of (n := 1) (lay_list fun d hd => by
    obtain ⟨i, _, rfl⟩ := List.mem_map.mp hd
    exact lay_int _) (by decide)
  refine s_seq (s_if (b := b) (et_next (ee_var rfl)) A (fun hb H1 e1 A1 => ?_) (fun hb H1 e1 A1 => ?_))
  · subst hb
    have hrg := ei_rng2 (ea_cons (ee_succ (K := K) (a := p) (ee_var (Γ := initG ["_law_word_so", "_law_place_so", "_law_side", "_law_letters_so", "_law_places_so", "_law_k"] [eTx t, .int (p : Int), eSide true, .tuple (L.map .int)]) (i := 1) rfl)) (ea_cons (ee_succ (K := K) (ee_lenX (K := K) (w := t) (ee_var (i := 0) rfl))) ea_nil)) (by omega)
    rw [show (((t.length + 1 : Nat) : Int) - ((p + 1 : Nat) : Int)).toNat = t.length - p by omega] at hrg
    by_cases hpe : p = t.length + 1
    · subst hpe
      have hz : t.length - (t.length + 1) = 0 := by omega
      rw [hz] at hrg
      refine s_seq (s_set (i := 4) (ee_sc (hlist (lo := 1) (n := 0) (by
        have e : rgD (((1 : Nat)) : Int) 0 = rgD ((t.length + 1 + 1 : Nat) : Int) 0 := rfl
        rw [e]; exact hrg) (by omega) (by omega)) (d2 := .list []) rfl) A1 fun σ2 H2 A2 => ?_)
      refine s_retQ (H0 := H) (ee_if (et_some (ee_var rfl) shaped_nil) (fun h => nomatch h) (fun h => ee_sc (ee_succ (ee_lenX (ee_var rfl))) ?_)) A2 (by simp) k
      have hN : nextIn t L (t.length + 1) = none := nextIn_end (by omega)
      unfold ask
      simp only [if_true, hN]
      rfl
    · refine s_seq (s_set (i := 4) (hlist (lo := p + 1) (n := t.length - p) hrg (by omega) (by omega)) A1 fun σ2 H2 A2 => ?_)
      refine s_retQ (H0 := H) (ee_if (et_some (ee_var rfl) hsh) (fun h => ?_) (fun h => ?_)) A2 (by simp) k
      · unfold ask nextIn
        cases hc : cand t L (p + 1) (t.length - p) with
        | nil => rw [hc] at h; cases h
        | cons q r =>
          exact ee_op (od_ix_l (j := 0) (ds := (q :: r).map fun k : Nat => .int (k : Int)) rfl) (ee_var rfl) (ee_int 0)
      · unfold ask nextIn
        cases hc : cand t L (p + 1) (t.length - p) with
        | nil => exact ee_succ (ee_lenX (ee_var rfl))
        | cons q r => rw [hc] at h; cases h
  · subst hb
    refine s_next ?_
    dsimp only
    refine s_seq (s_set (i := 4) (hlist (lo := 1) (n := p - 1) (by
      have hrg := ei_rng2 (ea_cons (ee_int 1) (ea_cons (ee_var (Γ := initG ["_law_word_so", "_law_place_so", "_law_side", "_law_letters_so", "_law_places_so", "_law_k"] [eTx t, .int (p : Int), eSide false, .tuple (L.map .int)]) (i := 1) rfl) ea_nil)) (by omega)
      rw [show ((p : Int) - 1).toNat = p - 1 by omega] at hrg
      exact hrg) (by omega) (by omega)) A1 fun σ2 H2 A2 => ?_)
    refine s_retQ (H0 := H) (ee_if (et_some (ee_var rfl) hsh) (fun h => ?_) (fun h => ?_)) A2 (by simp) k
    · unfold ask lastIn
      cases hc : (cand t L 1 (p - 1)).getLast? with
      | none =>
        rw [List.getLast?_eq_none_iff] at hc
        rw [hc] at h
        cases h
      | some q =>
        refine ee_op (od_ix_le ?_) (ee_var rfl) (ee_neg (ee_int 1))
        rw [List.getLast?_map, hc]
        rfl
    · unfold ask lastIn
      cases hc : cand t L 1 (p - 1) with
      | nil => exact ee_int 0
      | cons q r => rw [hc] at h; cases h
/-! ### named, at, word -/
def R_named (ds : List PyData) (d : PyData) : Prop := ∃ (w : Tx) (N : Nm), ds = [eTx w, eNm N] ∧ N ≠ [] ∧ w.length ≤ 1000 ∧ d = .int (named N w : Nat)
theorem ok_named {f : Addr} {fd : FuncData} (B : Bl mg) {f__law_found : Addr} {fd__law_found : FuncData} (C__law_found : Cl K mg "_law_found" f__law_found fd__law_found ["_law_word_so", "_law_place_so", "_law_side", "_law_letters_so"]) (G__law_found : FnOk P w K mg base CX0 1 f__law_found fd__law_found ["_law_word_so", "_law_place_so", "_law_side", "_law_letters_so"] (FD R_found)) (F : Fun K "_law_named" "_law_named" s__law_named f fd) : FnOk P w K mg base CX0 2 f fd ["_law_word_so", "_law_naming_here"] (FD R_named) := by
  refine ok_fd F sc__law_named (fun ds d ⟨_, _, h, _⟩ => by rw [h]; rfl) (fun cdv A outer s H E hr => ⟨_, (pss_cons (ps_set (i := 2) sc__law_named.nd rfl (.inl rfl) (pe_ifExp (pt_cmpR op_eq (pe_ix (ix_seqK (K := K) rfl) (pe_ix (ix_seqK (K := K) rfl) (pv 1) pe_int (fun _ _ => rfl)) pe_int (fun _ _ => rfl)) pe_str (nomark _)) pe_int (pe_op (op_addK (K := K) rfl) (pe_callB (len_K (K := K) rfl) (by rfl) B.len PySem.boot_len (pa_cons (pv 0) pa_nil)) pe_int)))
      (pss_cons (ps_for PassesOwn.never rfl (pi_tupK (K := K) rfl (pv 1)) (pg_tupK (K := K) (n := 2) rfl rfl (pgs_cons (pg_name (i := 3) sc__law_named.nd rfl (.inl rfl)) (pgs_cons (pg_name (i := 4) sc__law_named.nd rfl (.inl rfl)) pgs_nil))) (pss_one (ps_set (i := 2) sc__law_named.nd rfl (.inl rfl) (pe_call G__law_found (hr.mono (by first | decide | exact Nat.le_refl _ | omega)) (by rfl) C__law_found.g C__law_found.k C__law_found.b .nil pass0 (pa_cons (pv 0) (pa_cons (pv 2) (pa_cons (pv 3) (pa_cons (pv 4) pa_nil))))))))
      (pss_one (ps_ret (pv 2))))), ?_⟩)
  rintro O H ds d σ Q ⟨t, N, rfl, h0, htl, rfl⟩ A k
  have hp : 0 < N.length := List.length_pos_iff.mpr h0
  have hbl : begP N t ≤ t.length + 1 := by
    unfold begP
    split
    · exact Nat.zero_le _
    · exact Nat.le_refl _
  refine s_seq (s_set (d := .int (begP N t : Nat)) (ee_if (b := side N 0) (et_next (ee_side (j := 0) (ee_var rfl) (ee_int 0) hp)) (fun h => ?_) (fun h => ?_)) A fun σ1 H1 A1 => ?_)
  · unfold begP
    rw [headD_side, h]
    exact ee_int 0
  · unfold begP
    rw [headD_side, h]
    exact ee_succ (ee_lenX (ee_var rfl))
  refine s_seq (s_for (ei_tup (ds := N.map ePr) (ee_var rfl)) A1 (fun i Γ' => ∃ x3 x4, Γ' = [.dat (eTx t), .dat (eNm N), .dat (.int (goes t (N.take i) (begP N t) : Nat)), x3, x4]) ⟨_, _, rfl⟩ ?_ ?_)
  · rintro i d Γ' Bs' σ2 H2 hd ⟨x3, x4, rfl⟩ hB A2 xv hxv
    rw [List.getElem?_map] at hd
    cases ht : N[i]? with
    | none => rw [ht] at hd; cases hd
    | some pr =>
      rw [ht] at hd
      cases hd
      refine g_at (vs := [3, 4]) (gt_tup (gts_cons (gt_name (by decide)) (gts_cons (gt_name (by decide)) gts_nil)) rfl) A2 hxv fun σ3 A3 => ?_
      refine s_set (d := .int (goes t (N.take (i + 1)) (begP N t) : Nat)) (ee_call (FD.pd ⟨t, goes t (N.take i) (begP N t), pr.1, pr.2, rfl, goes_le _ _ hbl, htl, ?_⟩) (ea_cons (ee_var rfl) (ea_cons (ee_var rfl) (ea_cons (ee_var rfl) (ea_cons (ee_var rfl) ea_nil))))) A3 fun σ4 H4 A4 => ⟨_, ⟨_, _, rfl⟩, A4⟩
      rw [take_snoc ht, goes_app]
  · rintro Γ' σ2 H2 ⟨x3, x4, rfl⟩ A2
    rw [List.length_map, List.take_length] at A2
    exact s_retQ (H0 := H) (ee_var rfl) A2 (by simp) k
def R_at (ds : List PyData) (d : PyData) : Prop := ∃ (w : Tx) (p : Nat), ds = [eTx w, .int (p : Int)] ∧ p ≤ w.length + 1 ∧ d = eStand (stand w p)
theorem ok_at {f : Addr} {fd : FuncData} (B : Bl mg) (F : Fun K "_law_at" "_law_at" s__law_at f fd) : FnOk P w K mg base CX0 1 f fd ["_law_word_so", "_law_place_so"] (FD R_at) := by
  refine ok_fd F sc__law_at (fun ds d ⟨w, p, h, _⟩ => by rw [h]; rfl) (fun cdv A outer s H E hr => ⟨_, (pss_cons (ps_if (pt_cmpR op_eq (pv 1) pe_int (nomark _)) (pss_one (ps_ret pe_str)) pss_nil)
      (pss_one (ps_ret (pe_ifExp (pt_cmpR op_gt (pv 1) (pe_callB (len_K (K := K) rfl) (by rfl) B.len PySem.boot_len (pa_cons (pv 0) pa_nil)) (nomark _)) pe_str (pe_ix (ix_seqK (K := K) rfl) (pv 0) (pe_op op_sub (pv 1) pe_int) (fun _ _ => rfl)))))), ?_⟩)
  rintro O H ds d σ Q ⟨w, p, rfl, hp, rfl⟩ A k
  refine s_seq (s_if (b := decide (p = 0)) (et_eqN (ee_var rfl) (ee_int _)) A (fun h H2 e2 A2 => ?_) (fun h H2 e2 A2 => ?_))
  · have hp0 : p = 0 := of_decide_eq_true h
    subst hp0
    exact s_retQ (H0 := H) (ee_str "front") A2 (by simp) k
  · have hp0 : ¬ p = 0 := of_decide_eq_false h
    refine s_next (s_retQ (H0 := H) (ee_if (b := decide (w.length < p)) (et_gtN (ee_var rfl) (ee_lenX (ee_var rfl))) (fun h => ?_) (fun h => ?_)) A2 (by simp) k)
    · unfold stand
      rw [if_neg hp0, if_pos (of_decide_eq_true h)]
      exact ee_str "back"
    · have hl := of_decide_eq_false h
      unfold stand
      rw [if_neg hp0, if_neg hl]
      exact ee_op (od_ix_t (tx_ix (by omega))) (ee_var rfl) (ee_pred (by omega) (ee_var rfl))
def R_word (ds : List PyData) (d : PyData) : Prop := ∃ a b : Nat, ds = [.int (a : Int), .int (b : Int)] ∧ d = .str (wd a b)
theorem ok_word {f : Addr} {fd : FuncData} (B : Bl mg) (F : Fun K "_law_word" "_law_word" s__law_word f fd) : FnOk P w K mg base CX0 1 f fd ["_law_near", "_law_far"] (FD R_word) := by
  refine ok_fd F sc__law_word (fun ds d ⟨w, p, h, _⟩ => by rw [h]; rfl) (fun cdv A outer s H E hr => ⟨_, (pss_one (ps_ret (pe_ifExp (pt_cmpR op_lt (pv 0) (pv 1) (nomark _)) pe_str (pe_ifExp (pt_cmpR op_eq (pv 0) (pv 1) (nomark _)) pe_str pe_str)))), ?_⟩)
  rintro O H ds d σ Q ⟨a, b, rfl, rfl⟩ A k
  refine s_ret (ee_if (b := decide (a < b)) (et_ltN (ee_var rfl) (ee_var rfl)) (fun h => ?_) (fun h => ee_if (b := decide (a = b)) (et_eqN (ee_var rfl) (ee_var rfl)) (fun h2 => ?_) (fun h2 => ?_))) A k
  · unfold wd; rw [if_pos (of_decide_eq_true h)]; exact ee_str _
  · unfold wd; rw [if_neg (of_decide_eq_false h), if_pos (of_decide_eq_true h2)]; exact ee_str _
  · unfold wd; rw [if_neg (of_decide_eq_false h), if_neg (of_decide_eq_false h2)]; exact ee_str _
/-! ### heard -/
theorem pe_isE {X : Cx} {C a : Addr} {oe : Obj} {cls : Value} {d : Option Addr} {pn : List (Addr × Obj)} {e : Expr} {es : List Expr} {t : TA} {p pos : Pos} (CN : Cn X.K X.mg C) (hz : Zc cls d oe) (hf : ∃ vs, oe.data = .fields vs) (hg : Gl (X.suite a ((a, oe) :: pn)) "isinstance") (hm : X.mg "isinstance" = none)
    (ha : PA (X.suite a ((a, oe) :: pn)) (e :: es) t) (he : starEach (e :: es) (X.suite a ((a, oe) :: pn)).env = (false, eval e (X.suite a ((a, oe) :: pn)).env) :: starEach es (X.suite a ((a, oe) :: pn)).env := by rfl) (hpl : (backTo pos (starEach es (X.suite a ((a, oe) :: pn)).env)).any (·.1) = false := by rfl) :
    PE (X.suite a ((a, oe) :: pn)) (.Call (.Name "isinstance" p) (e :: es) [] pos) (fun σ H Q => (cls = .ref C ∧ d = none) ∧ tCB (rIsE X.K C a) t σ H Q) := ⟨fun pins s σ H Q I h => by
  obtain ⟨⟨rfl, rfl⟩, h⟩ := h
  exact (pe_callB (call_isE CN.xC hz hf) hg hm (by decide +kernel) ha (by decide) (by decide) he hpl).run pins s σ H Q I h⟩
def heardD (o : Option PyData) : PyData := o.getD (.list [.str "can not", .bool true])
def R_heard (ds : List PyData) (d : PyData) : Prop := (∃ (W : Nat) (x y : PyData) (N1 N2 : Nm), ds = [.int 0, .int (W : Int), x, y] ∧ NmD x N1 ∧ NmD y N2 ∧ NsOk W [N1, N2] ∧ d = heardD (unlD W N1 N2)) ∨
  ∃ (W : Nat) (x : PyData) (N : Nm) (s : Sum Int Bool), ds = [.int 1, .int (W : Int), x, eStand s] ∧ NmD x N ∧ NsOk W [N] ∧ d = heardD (withD W N s)
theorem ok_heard {f C : Addr} {fd : FuncData} (B : Bl mg) (CN : Cn K mg C) {f_unlike_named : Addr} {fd_unlike_named : FuncData} (C_unlike_named : Cl K mg "unlike_named" f_unlike_named fd_unlike_named ["wide", "one", "other"]) (G_unlike_named : FnOk P w K mg base (L2.CX P w) 24 f_unlike_named fd_unlike_named ["wide", "one", "other"] (FX C R_unlike_named)) {f_text_with : Addr} {fd_text_with : FuncData} (C_text_with : Cl K mg "text_with" f_text_with fd_text_with ["wide", "naming", "what"]) (G_text_with : FnOk P w K mg base (L2.CX P w) 24 f_text_with fd_text_with ["wide", "naming", "what"] (FX C R_text_with)) (F : Fun K "_law_heard" "_law_heard" s__law_heard f fd) : FnOk P w K mg base CX0 25 f fd ["_law_door", "_law_wide", "_law_one", "_law_two"] (FD R_heard) := by
  refine ok_fd F sc__law_heard (fun ds d h => by rcases h with ⟨_, _, _, _, _, h, _⟩ | ⟨_, _, _, _, h, _⟩ <;> rw [h] <;> rfl) (fun cdv A outer s H E hr => ⟨_, (pss_cons (ps_set (i := 4) sc__law_heard.nd rfl (.inl rfl) pe_non)
      (pss_cons (ps_try_as (i := 5) rfl rfl sc__law_heard.nd rfl rfl ⟨rfl, by decide, .inl CN.gP⟩ takes0 (fun W pn xe tk _ => (pss_one (ps_set (i := 4) sc__law_heard.nd rfl (.inl rfl) (pe_ifExp (pt_cmpR op_eq (pv 0) pe_int (nomark _)) (pe_callS G_unlike_named (hr.mono (by first | decide | exact Nat.le_refl _ | omega)) rfl C_unlike_named.g C_unlike_named.k C_unlike_named.b (fun σ => passAt tk σ) (pa_cons (pv 1) (pa_cons (pv 2) (pa_cons (pv 3) pa_nil)))) (pe_callS G_text_with (hr.mono (by first | decide | exact Nat.le_refl _ | omega)) rfl C_text_with.g C_text_with.k C_text_with.b (fun σ => passAt tk σ) (pa_cons (pv 1) (pa_cons (pv 2) (pa_cons (pv 3) pa_nil)))))))) (fun a oe cls d pn hz hf => (pss_one (ps_set (i := 4) sc__law_heard.nd rfl (.inl rfl) (pe_lst (pa_cons pe_str (pa_cons (pe_isE CN hz hf (by rfl) B.isinstance (pa_cons (pv 5) (pa_cons (pe_ty_ValueError (by rfl) B.ValueError) pa_nil))) pa_nil)))))))
      (pss_one (ps_ret (pv 4))))), ?_⟩)
  rintro O H ds d σ Q hR A k
  have hds : ∃ (b : Bool) (x1 x2 x3 : PyData), ds = [.int (if b then 0 else 1), x1, x2, x3] := by
    rcases hR with ⟨W, x, y, _, _, h, _⟩ | ⟨W, x, _, s, h, _⟩
    · exact ⟨true, _, _, _, h⟩
    · exact ⟨false, _, _, _, h⟩
  obtain ⟨b, x1, x2, x3, rfl⟩ := hds
  refine s_seq (s_set (ee_non) A fun σ1 H1 A1 => ?_)
  dsimp only
  have hx : PySem.W.exmOne K (.ref C) (.ref C) = some true := PySem.W.exm_ref CN.bP CN.xC.hd CN.tP CN.sP
  have A1' : Ats O [([], H)] σ1 H1 [.dat (.int (if b then 0 else 1)), .dat x1, .dat x2, .dat x3, .dat .none, .unk] := A1
  refine s_seq ?_
  have hargs : EA (tCons (tVar 1) (tCons (tVar 2) (tCons (tVar 3) tNil))) [.dat (.int (if b then 0 else 1)), .dat x1, .dat x2, .dat x3, .dat .none, .unk] [x1, x2, x3] := ea_cons (ee_var rfl) (ea_cons (ee_var rfl) (ea_cons (ee_var rfl) ea_nil))
  have good : ∀ {r : PyData} {v : V} {H4 : Hp}, d = r → Same H1 H4 → Da (cut O H4) v r → tRet (tVar 4) { nx := fun _ H' => Q .non H', rt := Q } (σ1.set 4 (some v)) H4 := fun {r v H4} hr e4 h4 => by
    subst hr
    exact s_retQ (H0 := H) (ee_var rfl) ((A1'.mono e4).set (i := 4) h4) (by simp) k
  have bad : ∀ {H4 p : _} {a : Addr}, d = .list [.str "can not", .bool true] → Same H1 H4 → H4 p = none → tRet (tVar 4) { nx := fun _ H' => Q .non H', rt := Q } (((σ1.set 5 (some (.ref a))).set 4 (some (.ref p))).set 5 none) (upd H4 p (.lst [.str "can not", .bl true])) := fun {H4 p a} hr e4 hp => by
    subst hr
    have A4 := A1'.mono e4
    have A5 := ((A4.unk (i := 5) (x := some (.ref a))).mono (same_upd (o := .lst [.str "can not", .bl true]) hp)).set (i := 4) (d := .list [.str "can not", .bool true]) (da_lst A4.dom hp (.cons (.str _) (.cons (.bl _) .nil)))
    exact s_retQ (H0 := H) (ee_var rfl) (A5.unk (i := 5) (x := none)) (by simp) k
  have h5 : ∀ {a : Addr}, (σ1.set 5 (some (V.ref a)))[5]? = some (some (.ref a)) := fun {a} => by
    rw [List.getElem?_set_self]
    rw [A1'.len]
    show 5 < 6
    decide
  cases b with
  | true =>
    refine et_test (ee_op (od_eqI 0 0) (ee_var (d := .int 0) rfl) (ee_int 0)) O _ σ1 H1 A1' _ fun H2 e2 => ?_
    rw [if_pos (show decide ((0 : Int) = 0) = true by decide)]
    refine hargs O _ σ1 H2 (A1'.mono e2) _ fun vs H3 e3 hv => ?_
    rcases hR with ⟨W, x, y, N1, N2, h, hX, hY, hN, hd⟩ | ⟨W, x, N, s, h, _⟩
    · injection h with h1 h; injection h with h2 h; injection h with h3 h; injection h with h4 h
      subst h2 h3 h4
      refine ⟨O, _, unlD W N1 N2, ((A1'.mono e2).mono e3).dom, hv, ⟨W, _, _, N1, N2, rfl, hX, hY, hN, rfl⟩, fun r hr v H4 e4 h4 => good (by rw [hd, hr]; rfl) ((e2.trans e3).trans e4) h4, fun hr H4 e4 => ⟨true, hx, fun _ a ha => ?_, fun h => nomatch h⟩⟩
      exact ⟨⟨rfl, rfl⟩, _, h5, .ty "ValueError", .type "ValueError", true, rfl, fun u hu => hu, CN.vP, by show 2 ≤ sizeLine; decide, fun p hp => bad (by rw [hd, hr]; rfl) ((e2.trans e3).trans e4) hp⟩
    · injection h with h1 h
      cases h1
  | false =>
    refine et_test (ee_op (od_eqI 1 0) (ee_var (d := .int 1) rfl) (ee_int 0)) O _ σ1 H1 A1' _ fun H2 e2 => ?_
    rw [if_neg (show ¬ decide ((1 : Int) = 0) = true by decide)]
    refine hargs O _ σ1 H2 (A1'.mono e2) _ fun vs H3 e3 hv => ?_
    rcases hR with ⟨W, x, y, N1, N2, h, hX, hY, hN, hd⟩ | ⟨W, x, N, s, h, hX, hN, hd⟩
    · injection h with h1 h
      cases h1
    · injection h with h1 h; injection h with h2 h; injection h with h3 h; injection h with h4 h
      subst h2 h3 h4
      refine ⟨O, _, withD W N s, ((A1'.mono e2).mono e3).dom, hv, ⟨W, _, N, s, rfl, hX, hN, rfl⟩, fun r hr v H4 e4 h4 => good (by rw [hd, hr]; rfl) ((e2.trans e3).trans e4) h4, fun hr H4 e4 => ⟨true, hx, fun _ a ha => ?_, fun h => nomatch h⟩⟩
      exact ⟨⟨rfl, rfl⟩, _, h5, .ty "ValueError", .type "ValueError", true, rfl, fun u hu => hu, CN.vP, by show 2 ≤ sizeLine; decide, fun p hp => bad (by rw [hd, hr]; rfl) ((e2.trans e3).trans e4) hp⟩
end
end Nx
set_option maxHeartbeats 4000000
/-! the law's own defs, 4: little texts suffice; what the urn is made of -/
namespace Nx
open PySem PySem.Spec PyProof.Rows L2
def wy (N1 N2 : Nm) (t : Tx) : Str := wd (named N1 t) (named N2 t)
theorem wy_vr {N1 N2 : Nm} {u v : Tx} (h : VR [N1, N2] u v) : wy N1 N2 u = wy N1 N2 v := by
  have h1 := h.lt N1 (by simp) N2 (by simp)
  have h2 := h.eq (N1 := N1) (N2 := N2) (by simp) (by simp)
  unfold wy wd
  by_cases a : named N1 u < named N2 u
  · rw [if_pos a, if_pos (h1.mp a)]
  · rw [if_neg a, if_neg (fun z => a (h1.mpr z))]
    by_cases b : named N1 u = named N2 u
    · rw [if_pos b, if_pos (h2.mp b)]
    · rw [if_neg b, if_neg (fun z => b (h2.mpr z))]
def ordS : List Str → Option Str
  | [] => none
  | w0 :: r => if (w0 :: r).all (fun x => decide (x = w0)) then some w0 else none
theorem ordW_S (ws : List Str) : ordW ws = match ordS ws with
    | none => .none
    | some w0 => .str w0 := by
  unfold ordW ordS
  cases ws with
  | nil => rfl
  | cons a r =>
    dsimp only
    cases h : (a :: r).all fun x => decide (x = a) <;> simp
section
variable {W K : Nat}
theorem ord_little {N1 N2 : Nm} (hN : NsOk W [N1, N2]) (hK : pairs [N1, N2] ≤ K) : ordD W N1 N2 = ordW ((words W K).map (wy N1 N2)) := by
  have hT := told_is hN.ne hN.W2
  obtain ⟨r1, e1⟩ := told_first hN.ne hN.W2
  obtain ⟨r2, e2⟩ := little_first W K
  have h := all_same hT.t hK (fun t => decide (wy N1 N2 t = wy N1 N2 [])) (fun u v e => by rw [wy_vr e])
  show ordW ((told W [N1, N2]).map (wy N1 N2)) = _
  rw [e1, e2] at h ⊢
  rw [List.map_cons, List.map_cons, ordW, ordW]
  rw [← List.map_cons (f := wy N1 N2), ← List.map_cons (f := wy N1 N2), List.all_map, List.all_map]
  have h' : ([] :: r1).all ((fun x => decide (x = wy N1 N2 [])) ∘ wy N1 N2) = ([] :: r2).all ((fun x => decide (x = wy N1 N2 [])) ∘ wy N1 N2) := h
  rw [h']
theorem unl_little {N1 N2 : Nm} (hN : NsOk W [N1, N2]) (hK : pairs [N1, N2] ≤ K) : unlD W N1 N2 = ((words W K).filter fun t => !decide (named N1 t = named N2 t)).head?.map eTx := by
  have hT := told_is hN.ne hN.W2
  unfold unlD
  rw [first_same hT.t hK _ (fun u v e => by
    have := e.eq (N1 := N1) (N2 := N2) (by simp) (by simp)
    rw [decide_eq_decide.mpr this])]
theorem with_little {N : Nm} (s : Sum Int Bool) (hN : NsOk W [N]) (hK : pairs [N] ≤ K) : withD W N s = ((words W K).filter fun t => decide (stand t (named N t) = s)).head?.map eTx := by
  have hT := told_is hN.ne hN.W2
  unfold withD
  rw [first_same hT.t hK _ (fun u v e => by rw [e.st N (by simp)])]
theorem memS_map (s : Sum Int Bool) (f : Tx → Sum Int Bool) (l : List Tx) : memS s (l.map f) = l.any fun t => decide (f t = s) := by
  unfold memS
  rw [List.any_map]
  rfl
theorem there_little {N : Nm} (hN : NsOk W [N]) (hK : pairs [N] ≤ K) : thereD W N = .tuple (((kindsOf W).filter fun s => memS s ((words W K).map fun t => stand t (named N t))).map eStand) := by
  have hT := told_is hN.ne hN.W2
  unfold thereD
  have e : (fun s => memS s ((told W [N]).map fun t => stand t (named N t))) = fun s => memS s ((words W K).map fun t => stand t (named N t)) := by
    funext s
    rw [memS_map, memS_map]
    exact some_same hT.t hK _ (fun u v e => by rw [e.st N (by simp)])
  rw [e]
theorem ways_little {N1 N2 : Nm} (hK : pairs [N1, N2] ≤ K) {u : Tx} (hu : okT W u) : wy N1 N2 u ∈ (words W K).map (wy N1 N2) := by
  obtain ⟨v, hv, e⟩ := long_little (Ns := [N1, N2]) hK u hu
  exact List.mem_map.mpr ⟨v, hv, (wy_vr e).symm⟩
theorem wd_same (a b : Nat) : decide (wd a b = "same") = decide (a = b) := by
  unfold wd
  by_cases h : a < b
  · rw [if_pos h, decide_eq_false (by omega : ¬ a = b)]
    decide
  · rw [if_neg h]
    by_cases e : a = b
    · rw [if_pos e, decide_eq_true e]
      decide
    · rw [if_neg e, decide_eq_false e]
      decide
end
theorem cost_le {n : Nat} (h1 : 1 ≤ n) (h3 : n ≤ 4) : cost n ≤ 14 ∧ (n ≤ 3 → cost n ≤ 9) ∧ (n ≤ 2 → cost n ≤ 5) := by
  have : n = 1 ∨ n = 2 ∨ n = 3 ∨ n = 4 := by omega
  rcases this with e | e | e | e <;> subst e <;> decide
theorem pow_le_of {W c d : Nat} (hW : 1 ≤ W) (h : c ≤ d) (hd : 2 * W ^ d ≤ 2000000) : 2 * W ^ c ≤ 2000000 := Nat.le_trans (Nat.mul_le_mul_left 2 (Nat.pow_le_pow_right hW h)) hd
theorem nsok_two {W : Nat} {N1 N2 : Nm} (h1 : N1 ≠ []) (h2 : N2 ≠ []) (hW : (W = 2 ∧ N1.length ≤ 3 ∧ N2.length ≤ 3) ∨ (W = 3 ∧ N1.length ≤ 2 ∧ N2.length ≤ 2)) : NsOk W [N1, N2] := by
  have p1 := List.length_pos_iff.mpr h1
  have p2 := List.length_pos_iff.mpr h2
  have c1 := cost_le (n := N1.length) p1 (by omega)
  have c2 := cost_le (n := N2.length) p2 (by omega)
  have hc : costs [N1, N2] = cost N1.length + (cost N2.length + 0) := rfl
  refine ⟨fun N hN => ?_, by show 2 ≤ 2; decide, fun N hN => ?_, by omega, by omega, ?_, by omega⟩
  · rcases List.mem_cons.mp hN with e | hN
    · rw [e]; exact h1
    · rw [List.mem_singleton.mp hN]; exact h2
  · rcases List.mem_cons.mp hN with e | hN
    · rw [e]; omega
    · rw [List.mem_singleton.mp hN]; omega
  · rcases hW with ⟨rfl, a, b⟩ | ⟨rfl, a, b⟩
    · exact pow_le_of (d := 18) (by decide) (by have := c1.2.1 a; have := c2.2.1 b; omega) (by decide)
    · exact pow_le_of (d := 10) (by decide) (by have := c1.2.2 a; have := c2.2.2 b; omega) (by decide)
theorem nsok_one {W : Nat} {N1 N2 : Nm} (h : NsOk W [N1, N2]) : NsOk W [N1] := by
  have hc : costs [N1, N2] = cost N1.length + (cost N2.length + 0) := rfl
  have hc1 : costs [N1] = cost N1.length + 0 := rfl
  refine ⟨fun N hN => h.ne N (by rw [List.mem_singleton.mp hN]; simp), by show 1 ≤ 2; decide, fun N hN => h.len N (by rw [List.mem_singleton.mp hN]; simp), h.W2, h.W3, pow_le_of (d := costs [N1, N2]) (by have := h.W2; omega) (by omega) h.size, by have := h.cost; omega⟩
/-! ### namings as tuples, as lists -/
theorem tree_int (n : Nat) (i : Int) : tree (n + 1) (.int i) := trivial
theorem tree_str (n : Nat) (i : Str) : tree (n + 1) (.str i) := trivial
theorem nmd_nm {N : Nm} (hl : N.length ≤ 1000) (hp : ∀ pr ∈ N, pr.2.length ≤ 1000) : NmD (eNm N) N where
  t := ⟨by rw [List.length_map]; exact hl, fun d hd => by
    obtain ⟨pr, hpr, rfl⟩ := List.mem_map.mp hd
    refine ⟨by show 2 ≤ 1000; decide, fun d hd => ?_⟩
    rcases List.mem_cons.mp hd with e | hd
    · rw [e]; exact trivial
    · rw [List.mem_singleton.mp hd]
      refine ⟨by rw [List.length_map]; exact hp pr hpr, fun d hd => ?_⟩
      obtain ⟨i, _, rfl⟩ := List.mem_map.mp hd
      trivial⟩
  e := by
    show PyData.tuple ((N.map ePr).map (tupD 3)) = eNm N
    rw [List.map_map]
    unfold eNm
    congr 1
    refine List.map_congr_left fun pr _ => ?_
    show PyData.tuple [eSide pr.1, .tuple ((pr.2.map .int).map (tupD 1))] = ePr pr
    rw [List.map_map]
    rfl
theorem nmd_lists {N : Nm} (hl : N.length ≤ 1000) (hp : ∀ pr ∈ N, pr.2.length ≤ 1000) : NmD (listD 4 (eNm N)) N := by
  have e : listD 4 (eNm N) = .list (N.map fun pr => .list [eSide pr.1, .list (pr.2.map .int)]) := by
    show PyData.list ((N.map ePr).map (listD 3)) = _
    rw [List.map_map]
    congr 1
    refine List.map_congr_left fun pr _ => ?_
    show PyData.list [eSide pr.1, .list ((pr.2.map .int).map (listD 1))] = _
    rw [List.map_map]
    rfl
  rw [e]
  refine ⟨⟨by rw [List.length_map]; exact hl, fun d hd => ?_⟩, ?_⟩
  · obtain ⟨pr, hpr, rfl⟩ := List.mem_map.mp hd
    refine ⟨by show 2 ≤ 1000; decide, fun d hd => ?_⟩
    rcases List.mem_cons.mp hd with e | hd
    · rw [e]; exact trivial
    · rw [List.mem_singleton.mp hd]
      refine ⟨by rw [List.length_map]; exact hp pr hpr, fun d hd => ?_⟩
      obtain ⟨i, _, rfl⟩ := List.mem_map.mp hd
      trivial
  · show PyData.tuple ((N.map fun pr => PyData.list [eSide pr.1, .list (pr.2.map .int)]).map (tupD 3)) = eNm N
    rw [List.map_map]
    unfold eNm
    congr 1
    refine List.map_congr_left fun pr _ => ?_
    show PyData.tuple [eSide pr.1, .tuple ((pr.2.map .int).map (tupD 1))] = ePr pr
    rw [List.map_map]
    rfl
/-! ### a list that is only known to be there -/
def cutI {α : Type} (l : List α) (lo hi : Option Int) : List α := (l.drop (HT.sIx l.length 0 lo)).take (HT.sIx l.length l.length hi - HT.sIx l.length 0 lo)
theorem cutV_map (ns : List Int) (lo hi : Option Int) : cutV (ns.map V.int) lo hi = (cutI ns lo hi).map V.int := by
  unfold cutV cutI
  rw [List.length_map, List.map_take, List.map_drop]
theorem cutI_le {α : Type} (l : List α) (lo hi : Option Int) : (cutI l lo hi).length ≤ l.length := by
  unfold cutI
  rw [List.length_take, List.length_drop]
  omega
section
variable {O : List Addr} {Bs : List (List Addr × Hp)} {σ : L2.St} {H : Hp} {Γ : List Slv} {K : PySem.W.Frag} {a : Addr} {i : Nat} {te : TE} {ds : List PyData}
theorem eh_slS {tl th : TO} {lo hi : Option Int} {ns : List Int} (A : Ats O Bs σ H Γ) (hi0 : Γ[i]? = some (.adr a)) (hs : SqL K H a (ns.map V.int)) (hl : EO tl Γ lo) (hh : EO th Γ hi) : EH (tSl (rSlX K) (tVar i) tl th) O σ H (.list ((cutI ns lo hi).map .int)) := fun H1 e1 Q q =>
  ⟨_, A.adr i a hi0, hl O Bs σ H1 (A.mono e1) _ fun H2 e2 => hh O Bs σ H2 ((A.mono e1).mono e2) _ fun H3 e3 => .inr ⟨a, _, rfl, Same.seq (e1.trans (e2.trans e3)) hs, fun p hp => by
    refine q _ _ ((e2.trans e3).trans (same_upd hp)) ?_
    rw [cutV_map]
    have e : (cutI ns lo hi).map V.int = ((cutI ns lo hi).map PyData.int).map vOf := (sc_ints _).2.symm
    rw [e]
    exact da_lst (dom_mono A.dom (e1.trans (e2.trans e3))) hp (das_sc (sc_ints _).1)⟩⟩
theorem eih_list (h : EH te O σ H (.list ds)) : EIH (iList K te) O σ H ds := fun R q => h H (Same.refl _) _ fun v H1 e1 hv => by
  cases hv with
  | @lst a xs _ h1 h2 =>
    refine ⟨a, rfl, ⟨xs, SqL.of (cut_same _ _ h1)⟩, q _ H1 e1 fun O' o1 o2 => ⟨fun H => cut O' H a = some (.lst xs) ∧ DaAll (cut O' H) xs ds, ⟨fun H H' e g => ⟨e _ _ g.1, g.2.mono (SL.of e)⟩, fun i H hi g => ?_, fun H g => ⟨xs, SqL.of (cut_same _ _ g.1), Nat.le_of_eq g.2.len⟩, fun i H x H' d hd g hO y => ?_⟩, ?_⟩⟩
    · obtain ⟨v, hv, _⟩ := g.2.got (List.getElem?_eq_getElem hi)
      exact ⟨xs, v, SqL.of (cut_same _ _ g.1), hv⟩
    · obtain ⟨rfl, y⟩ := y
      obtain ⟨v, hv, hD⟩ := g.2.got hd
      have e := y xs (SqL.of (cut_same _ _ g.1))
      rw [hv] at e
      cases e
      exact ⟨Same.refl _, hD⟩
    · show _ ∧ _
      rw [cut_ext o1 o2]
      exact ⟨h1, h2⟩
theorem eih_enL (h : EH te O σ H (.list ds)) : EIH (iEnum K (tCons te tNil)) O σ H (numD ds) := fun R q => h H (Same.refl _) _ fun v H1 e1 hv => by
  cases hv with
  | @lst a xs _ h1 h2 =>
    refine ⟨a, xs, rfl, SqL.of (cut_same _ _ h1), q _ H1 e1 fun O' o1 o2 => ⟨fun H => cut O' H a = some (.lst xs) ∧ DaAll (cut O' H) xs ds, ?_, ?_⟩⟩
    · refine wd_pair (n := xs.length) (fx := fun _ i => some (.int (i : Nat))) (fy := fun _ i => xs[i]?) (by unfold numD; rw [List.length_mapIdx, h2.len]) (fun H H' e g => ⟨e _ _ g.1, g.2.mono (SL.of e)⟩) (fun H g H' g' => ?_) (fun i H x y hi g hx hy => ?_)
      · exact (walk_enum (K := K) (a := a) (xs := xs)).mono (fun H g => SqL.of (cut_same _ _ g.1)) (fun i H x H' _ _ y => y)
      · obtain ⟨dy, h7, h8⟩ := g.2.get hy
        cases hx
        exact ⟨.int (i : Nat), dy, by unfold numD; rw [List.getElem?_mapIdx, h7]; rfl, .int _, h8⟩
    · show _ ∧ _
      rw [cut_ext o1 o2]
      exact ⟨h1, h2⟩
end
section
variable {P : Program} {w : World} {K : PySem.W.Frag} {mg : Str → Option Value} {base : Heap}
theorem old_none {H H' : Hp} {p : Addr} (e : Same H H') (h : H' p = none) : H p = none := by
  cases q : H p with
  | none => rfl
  | some o => rw [e p o q] at h; cases h
theorem s_orNew {O : List Addr} {Bs : List (List Addr × Hp)} {σ : L2.St} {H : Hp} {Γ : List Slv} {D : L2.Ends} {i : Nat} {te : TE} {ms : List Int} (h : EH te O σ H (.list (ms.map .int))) (A : Ats O Bs σ H Γ) (hm : ms.length ≤ 1)
    (k : ∀ p (n : Int) σ' H2, Same H H2 → H p = none → p ∉ O → Fr Bs p → Ats (p :: O) Bs σ' H2 (Γ.set i (.adr p)) → Ow (p :: O) H2 p [.int n] → D.nx σ' H2) :
    tAsg (tOrT K (tCB (fun xs H Q => ∃ p ys, xs = [.ref p] ∧ (SqL K H p ys ∨ SqT K H p ys) ∧ ∀ l, H l = none → Q (.ref l) (upd H l (.lst ys))) (tCons te tNil)) (tLst (tCons (tC (.int 0)) tNil))) (gName i) D σ H := h H (Same.refl _) _ fun v H1 e1 hv => by
  cases hv with
  | @lst q xs _ h1 h2 =>
    have hx : xs = ms.map V.int := by
      have e := h2.sc (sc_ints ms).1
      rw [(sc_ints ms).2] at e
      exact e
    subst hx
    refine ⟨q, _, rfl, .inl (SqL.of (cut_same _ _ h1)), fun l hl => ?_⟩
    have A1 := A.mono e1
    match ms, hm with
    | [], _ =>
      refine ⟨false, .inl ⟨[], SqL.of upd_same, rfl⟩, ?_⟩
      rw [if_neg Bool.false_ne_true]
      refine ⟨by show 1 ≤ sizeLine; decide, fun p hp => ?_⟩
      have A2 := A1.mono (same_upd (o := .lst []) hl)
      have e2 := e1.trans (same_upd (o := .lst []) hl)
      exact k p 0 _ _ (e2.trans (same_upd hp)) (old_none e2 hp) (A2.fresh hp) (Fr.new A2 hp) ((A2.own hp).setA) ⟨_, upd_same, .cons (.int 0) .nil⟩
    | [m], _ =>
      refine ⟨true, .inl ⟨[.int m], SqL.of upd_same, rfl⟩, ?_⟩
      rw [if_pos rfl]
      exact k l m _ _ (e1.trans (same_upd hl)) (old_none e1 hl) (A1.fresh hl) (Fr.new A1 hl) ((A1.own hl).setA) ⟨_, upd_same, .cons (.int m) .nil⟩
/-! ### cells -/
def spCells (K : PySem.W.Frag) : Sp := fun vs H Q _ => ∃ (a : Addr) (ns : List Int), vs = [.ref a, .int 1] ∧ SqL K H a (ns.map V.int) ∧ ns.length ≤ 63 ∧ ∀ p (n : Int) H', Same H H' → H p = none → H' p = some (.lst [.int n]) → Q (.ref p) H'
theorem ok_cells {f : Addr} {fd : FuncData} (B : Bl mg) (F : Fun K "_law_cells" "_law_cells" s__law_cells f fd) : FnOk P w K mg base CX0 1 f fd ["_law_script", "_law_roof_so"] (spCells K) := by
  refine F.ok sc__law_cells (fun vs H Q E h => ?_) (fun cdv A outer s H vs Q E hr h => ⟨_, (pss_cons (ps_set (i := 2) sc__law_cells.nd rfl (.inl rfl) (pe_orT (pe_callTy (list_K (K := K) rfl) (by rfl) B.list (by decide +kernel) (pa_cons (pe_slice (sl_K (K := K) rfl) (pv 0) po_none (po_some (pv 1))) pa_nil)) (pe_one (pe_lst (pa_cons pe_int pa_nil)))))
      (pss_cons (ps_for PassesOwn.never rfl (pi_enum (by rfl) B.enumerate (pa_cons (pe_slice (sl_K (K := K) rfl) (pv 0) (po_some (pv 1)) (po_some pe_int)) pa_nil)) (pg_tupK (K := K) (n := 2) rfl rfl (pgs_cons (pg_name (i := 3) sc__law_cells.nd rfl (.inl rfl)) (pgs_cons (pg_name (i := 4) sc__law_cells.nd rfl (.inl rfl)) pgs_nil))) (pss_cons (ps_set (i := 5) sc__law_cells.nd rfl (.inl rfl) (pe_op op_mod (pe_callTy call_int1 (by rfl) B.int (by decide +kernel) (pa_cons (pv 3) pa_nil)) (pv 1)))
      (pss_one (ps_asg (pe_op (op_addK (K := K) rfl) (pe_ix (ix_seqK (K := K) rfl) (pv 2) (pv 5) (fun _ _ => rfl)) (pe_op op_mul (pv 4) (pe_op (op_addK (K := K) rfl) (pv 3) pe_int))) (pg_sub (pv 2) (pv 5) set_list)))))
      (pss_one (ps_ret (pv 2))))), ?_⟩)
  · obtain ⟨a, ns, rfl, _⟩ := h
    rfl
  obtain ⟨a, ns, rfl, hs, hl, k⟩ := h
  have A0 : Ats [] [([a], H)] (L2.start ["_law_script", "_law_roof_so", "_law_bits_so", "_law_k", "_law_bit_so", "_law_at_so"] (.ref a :: [.int 1])) H (initU ["_law_script", "_law_roof_so", "_law_bits_so", "_law_k", "_law_bit_so", "_law_at_so"] a [.int 1]) := ats_startU (fun _ h => by cases h) (.cons (.int 1) .nil)
  have A1 := A0.mark []
  have hcut : (cutI ns none (some 1)).length ≤ 1 := by
    unfold cutI
    rw [List.length_take, HT.sIx_none]
    rw [show HT.sIx ns.length ns.length (some 1) = min 1 ns.length from HT.sIx_nat ns.length ns.length 1]
    omega
  refine s_seq (s_orNew (eh_slS (lo := none) (hi := some 1) A1 (i := 0) rfl hs eo_none (eo_some (ee_var rfl))) A1 hcut fun p n σ1 H1 e1 hp hpO fp A2 w2 => ?_)
  have hs1 := e1.seq hs
  refine s_seq (s_forH (eih_enL (eh_slS (lo := some 1) (hi := some 63) A2 (i := 0) rfl hs1 (eo_some (ee_var rfl)) (eo_some (ee_int 63)))) A2 (fun i Γ' H' => (∃ x3 x4 x5, Γ' = [.adr a, .dat (.int 1), .adr p, x3, x4, x5]) ∧ ∃ n : Int, Ow [p] H' p [.int n]) (fun i Γ' H1 H2 e ⟨h1, n, h2⟩ => ⟨h1, n, h2.mono e⟩) ⟨⟨_, _, _, rfl⟩, n, w2⟩ ?_ ?_)
  · rintro i d Γ' Bs' σ2 H2 hd ⟨⟨x3, x4, x5, rfl⟩, n, w3⟩ hB hF A3 xv hxv
    rw [numD_range PyData.int 0, List.getElem?_map] at hd
    have hi : i < 63 := by
      cases c : (List.range (cutI ns (some 1) (some 63)).length)[i]? with
      | none => rw [c] at hd; cases hd
      | some y =>
        have h1 := (List.getElem?_eq_some_iff.mp c).1
        rw [List.length_range] at h1
        have := cutI_le ns (some 1) (some 63)
        omega
    obtain ⟨y, hy⟩ : ∃ y : Int, d = pairD (.int (i : Nat)) (.int y) := by
      cases c : (List.range (cutI ns (some 1) (some 63)).length)[i]? with
      | none => rw [c] at hd; cases hd
      | some y =>
        obtain ⟨h1, h2⟩ := List.getElem?_eq_some_iff.mp c
        rw [List.getElem_range] at h2
        subst h2
        rw [c] at hd
        exact ⟨_, (Option.some.inj hd).symm⟩
    subst hy
    have fp' := hF p List.mem_cons_self fp
    refine g_at (vs := [3, 4]) (gt_tup (gts_cons (gt_name (by decide)) (gts_cons (gt_name (by decide)) gts_nil)) rfl) A3 hxv fun σ3 A4 => ?_
    refine s_seq (s_setE (d := .int ((0 : Nat) : Int)) (ee_sc (ee_op (od_modI (by decide)) (ee_cb (cd_int _) (ea_cons (ee_var rfl) ea_nil)) (ee_var rfl)) (by rw [Int.emod_one]; rfl)) A4 fun σ4 H4 e4 A5 => ?_)
    have w4 := w3.mono e4
    exact s_putO (j := 0) (i := 2) (p := p) rfl (eh_op A5.dom (od_addI _ _) (eh_ixO (j := 0) A5 (i := 2) rfl w4 (eh_of (ee_var rfl) A5) rfl) (eh_op A5.dom (od_mulI (.inr (by constructor <;> omega))) (eh_of (ee_var rfl) A5) (eh_op A5.dom (od_addI _ _) (eh_of (ee_var rfl) A5) (eh_of (ee_int 2) A5)))) (eh_of (ee_var rfl) A5) A5 List.mem_cons_self fp' w4 (by show 0 < 1; decide) fun H6 e6 A6 w6 => ⟨_, ⟨⟨_, _, _, rfl⟩, _, w6⟩, A6⟩
  · rintro Γ' σ2 H2 ⟨⟨x3, x4, x5, rfl⟩, n, w3⟩ A3
    obtain ⟨xs, h1, h2⟩ := w3
    have e := DaAll.sc (ds := [.int n]) rfl h2
    subst e
    exact ⟨_, A3.adr 2 p rfl, k p n H2 (A3.ex ([], H) (by simp)).same hp h1⟩
/-! ### box -/
theorem bit_small (b : Bool) : -(2 ^ 64) < (if b then (1 : Int) else 0) ∧ (if b then (1 : Int) else 0) < 2 ^ 64 := by cases b <;> decide
def spBox : Sp := fun vs H Q _ => ∃ (c : Addr) (n : Int), vs = [.ref c, .int 0] ∧ H c = some (.lst [.int n]) ∧ ∀ p (a b : Int) H', Same H H' → H p = none → H' p = some (.lst [.int a, .int b, .int 0]) → 0 ≤ b → b < 2 ^ 62 → Q (.ref p) H'
theorem ok_box {f : Addr} {fd : FuncData} (B : Bl mg) (F : Fun K "_law_box" "_law_box" s__law_box f fd) : FnOk P w K mg base CX0 1 f fd ["_law_script", "_law_k"] spBox := by
  refine F.ok sc__law_box (fun vs H Q E h => ?_) (fun cdv A outer s H vs Q E hr h => ⟨_, (pss_cons (ps_set (i := 2) sc__law_box.nd rfl (.inl rfl) (pe_ifExp (pt_cmpR op_lt (pv 1) (pe_callB (len_K (K := K) rfl) (by rfl) B.len PySem.boot_len (pa_cons (pv 0) pa_nil)) (nomark _)) (pe_ix (ix_seqK (K := K) rfl) (pv 0) (pv 1) (fun _ _ => rfl)) pe_int))
      (pss_one (ps_ret (pe_lst (pa_cons (pe_op op_mul (pe_callB call_abs (by rfl) B.abs (by decide +kernel) (pa_cons (pv 2) pa_nil)) (pe_callTy call_int1 (by rfl) B.int (by decide +kernel) (pa_cons (pe_cmpR op_ge (pe_callB call_abs (by rfl) B.abs (by decide +kernel) (pa_cons (pv 2) pa_nil)) (pe_op op_pow pe_int pe_int) (nomark _)) pa_nil))) (pa_cons (pe_op (op_addK (K := K) rfl) (pe_op (op_addK (K := K) rfl) (pe_op op_mod (pe_callTy call_int1 (by rfl) B.int (by decide +kernel) (pa_cons (pv 2) pa_nil)) pe_int) (pe_op op_mul pe_int (pv 1))) pe_int) (pa_cons pe_int pa_nil))))))), ?_⟩)
  · obtain ⟨a, ns, rfl, _⟩ := h
    rfl
  obtain ⟨c, n, rfl, hc, k⟩ := h
  have A0 : Ats [] [([], H)] (L2.start ["_law_script", "_law_k", "_law_bit_so"] [.ref c, .int 0]) H (initG ["_law_script", "_law_k", "_law_bit_so"] [.list [.int n], .int 0]) := ats_start (fun _ h => by cases h) (.cons (.lst (by rw [cut_nil]; exact hc) (.cons (.int n) .nil)) (.cons (.int 0) .nil))
  refine s_seq (s_set (d := .int n) (ee_if (b := true) (et_ltN (a := 0) (b := 1) (ee_var rfl) (ee_lenL (ds := [.int n]) (ee_var rfl))) (fun _ => ee_op (od_ix_l (j := 0) rfl) (ee_var rfl) (ee_var rfl)) (fun h => nomatch h)) A0 fun σ1 H1 A1 => ?_)
  have eb : EE (tVar 2) [.dat (.list [.int n]), .dat (.int 0), .dat (.int n)] (.int n) := ee_var rfl
  have eabs := ee_cb (cd_abs n) (ea_cons eb ea_nil)
  obtain ⟨z, epow⟩ : ∃ z : Int, EE (tOp (rI CPow fun i j => .int (i ^ j.toNat)) (tC (.int 10)) (tC (.int 18))) [.dat (.list [.int n]), .dat (.int 0), .dat (.int n)] (.int z) := ⟨_, ee_op (od_powI (i := 10) (j := 18) ⟨by decide, by decide, by decide⟩) (ee_int 10) (ee_int 18)⟩
  obtain ⟨m, hm⟩ : ∃ m : Int, m = (if n < 0 then -n else n) := ⟨_, rfl⟩
  rw [← hm] at eabs
  have hb0 := Int.emod_nonneg n (show (2305843009213693951 : Int) ≠ 0 by decide)
  have hb1 := Int.emod_lt_of_pos n (show (0 : Int) < 2305843009213693951 by decide)
  refine (ee_op (od_mulI (i := m) (.inr (bit_small (decide (z ≤ m))))) eabs (ee_cb (cd_intB _) (ea_cons (ee_op (od_ge m z) eabs epow) ea_nil))) [] _ σ1 H1 A1 _ fun v1 H2 e2 hv1 => ?_
  have A2 := A1.mono e2
  refine (ee_op (od_addI (K := K) _ _) (ee_op (od_addI (K := K) _ _) (ee_op (od_modI (by decide)) (ee_cb (cd_int n) (ea_cons eb ea_nil)) (ee_int _)) (ee_op (od_mulI (.inl (by decide))) (ee_int 39373) (ee_var (i := 1) rfl))) (ee_int 1318540)) [] _ σ1 H2 A2 _ fun v2 H3 e3 hv2 => ?_
  have A3 := A2.mono e3
  cases hv1
  cases hv2
  refine ⟨by show 3 ≤ sizeLine; decide, fun p hp => k p _ _ _ ((A3.ex ([], H) (by simp)).same.trans (same_upd hp)) (old_none (A3.ex ([], H) (by simp)).same hp) upd_same ?_ ?_⟩
  · omega
  · omega
end
end Nx
set_option maxHeartbeats 4000000
/-! the law's own defs, 5: the front -/
namespace Nx
open PySem PySem.Spec PyProof.Rows L2
theorem tree_sc {n : Nat} {d : PyData} (h : isSc d = true) : tree (n + 1) d := by
  cases d <;> first | trivial | exact absurd h Bool.false_ne_true
theorem tree_list {n : Nat} {ds : List PyData} (hl : ds.length ≤ 1000) (h : ∀ d ∈ ds, tree n d) : tree (n + 1) (.list ds) := ⟨hl, h⟩
theorem tree_tupl {n : Nat} {ds : List PyData} (hl : ds.length ≤ 1000) (h : ∀ d ∈ ds, tree n d) : tree (n + 1) (.tuple ds) := ⟨hl, h⟩
theorem tree_tx {n : Nat} {t : Tx} (hl : t.length ≤ 1000) : tree (n + 2) (eTx t) := tree_tupl (by rw [List.length_map]; exact hl) fun d hd => by
  obtain ⟨i, _, rfl⟩ := List.mem_map.mp hd
  trivial
theorem tree_heard {n : Nat} {o : Option Tx} (hl : ∀ t, o = some t → t.length ≤ 1000) : tree (n + 2) (heardD (o.map eTx)) := by
  cases o with
  | none =>
    refine tree_list (by show 2 ≤ 1000; decide) fun d hd => ?_
    rcases List.mem_cons.mp hd with e | hd
    · rw [e]; trivial
    · rw [List.mem_singleton.mp hd]; trivial
  | some t => exact tree_tx (hl t rfl)
theorem tree_stands {n : Nat} {l : List (Sum Int Bool)} (hl : l.length ≤ 1000) : tree (n + 2) (.tuple (l.map eStand)) := tree_tupl (by rw [List.length_map]; exact hl) fun d hd => by
  obtain ⟨i, _, rfl⟩ := List.mem_map.mp hd
  exact tree_sc (eStand_sc i)
abbrev bF : Nm := [(true, [2]), (false, [1])]
abbrev lF : Nm := [(false, [1])]
abbrev aF : Nm := [(false, [1, 2]), (true, [1, 2])]
theorem ok1 : NsOk 2 [bF, lF] := ⟨by decide, by decide, by decide, by decide, by decide, by decide +kernel, by decide +kernel⟩
theorem ok2 : NsOk 2 [bF, bF ++ bF] := ⟨by decide, by decide, by decide, by decide, by decide, by decide +kernel, by decide +kernel⟩
theorem ok3 : NsOk 2 [lF, bF] := ⟨by decide, by decide, by decide, by decide, by decide, by decide +kernel, by decide +kernel⟩
theorem ok4 : NsOk 2 [bF] := ⟨by decide, by decide, by decide, by decide, by decide, by decide +kernel, by decide +kernel⟩
theorem ok5 : NsOk 2 [aF, bF] := ⟨by decide, by decide, by decide, by decide, by decide, by decide +kernel, by decide +kernel⟩
theorem g1 : ordD 2 bF lF = .none := by rw [ord_little ok1 (K := 3) (by decide), ordW_S, (by decide +kernel : ordS ((words 2 3).map (wy bF lF)) = none)]
theorem g2 : oneB 2 bF (bF ++ bF) = true := by
  unfold oneB
  rw [ord_little ok2 (K := 6) (by decide), ordW_S, (by decide +kernel : ordS ((words 2 6).map (wy bF (bF ++ bF))) = some ("same" : Str))]
  simp [vOf]
theorem g3 : heardD (unlD 2 bF lF) = eTx [2, 1] := by rw [unl_little ok1 (K := 3) (by decide), (by decide +kernel : ((words 2 3).filter fun t => !decide (named bF t = named lF t)).head? = some [2, 1])]; rfl
theorem g4 : heardD (unlD 2 lF bF) = eTx [2, 1] := by rw [unl_little ok3 (K := 3) (by decide), (by decide +kernel : ((words 2 3).filter fun t => !decide (named lF t = named bF t)).head? = some [2, 1])]; rfl
theorem g5 : thereD 2 bF = .tuple [.int 1, .str "front"] := by rw [there_little ok4 (K := 2) (by decide), (by decide +kernel : ((kindsOf 2).filter fun s => memS s ((words 2 2).map fun t => stand t (named bF t))) = [.inl 1, .inr false])]; rfl
theorem g6 : heardD (withD 2 bF (.inl 1)) = eTx [1] := by rw [with_little _ ok4 (K := 2) (by decide), (by decide +kernel : ((words 2 2).filter fun t => decide (stand t (named bF t) = .inl 1)).head? = some [1])]; rfl
theorem g7 : heardD (withD 2 bF (.inr true)) = .list [.str "can not", .bool true] := by rw [with_little _ ok4 (K := 2) (by decide), (by decide +kernel : ((words 2 2).filter fun t => decide (stand t (named bF t) = .inr true)).head? = none)]; rfl
theorem g8 : ordD 2 aF bF = .str "behind" := by rw [ord_little ok5 (K := 4) (by decide), ordW_S, (by decide +kernel : ordS ((words 2 4).map (wy aF bF)) = some ("behind" : Str))]
theorem nmF (N : Nm) (h1 : N.length ≤ 1000) (h2 : (N.all fun pr => decide (pr.2.length ≤ 1000)) = true) : NmD (eNm N) N := nmd_nm h1 fun pr hp => of_decide_eq_true (List.all_eq_true.mp h2 pr hp)
section
variable {P : Program} {w : World} {K : PySem.W.Frag} {mg : Str → Option Value} {base : Heap}
def R_front (ds : List PyData) (d : PyData) : Prop := ds = [] ∧ d = .bool true
theorem ok_front_right {f : Addr} {fd : FuncData} (B : Bl mg) {f_order_of : Addr} {fd_order_of : FuncData} (C_order_of : Cl K mg "order_of" f_order_of fd_order_of ["wide", "one", "other"]) (G_order_of : FnOk P w K mg base CX0 24 f_order_of fd_order_of ["wide", "one", "other"] (FD R_order_of)) {f_are_one : Addr} {fd_are_one : FuncData} (C_are_one : Cl K mg "are_one" f_are_one fd_are_one ["wide", "one", "other"]) (G_are_one : FnOk P w K mg base CX0 25 f_are_one fd_are_one ["wide", "one", "other"] (FD R_are_one))
    {f__law_heard : Addr} {fd__law_heard : FuncData} (C__law_heard : Cl K mg "_law_heard" f__law_heard fd__law_heard ["_law_door", "_law_wide", "_law_one", "_law_two"]) (G__law_heard : FnOk P w K mg base CX0 25 f__law_heard fd__law_heard ["_law_door", "_law_wide", "_law_one", "_law_two"] (FD R_heard)) {f_letters_there : Addr} {fd_letters_there : FuncData} (C_letters_there : Cl K mg "letters_there" f_letters_there fd_letters_there ["wide", "naming"]) (G_letters_there : FnOk P w K mg base CX0 24 f_letters_there fd_letters_there ["wide", "naming"] (FD R_letters_there))
    {f__law_same : Addr} {fd__law_same : FuncData} (C__law_same : Cl K mg "_law_same" f__law_same fd__law_same ["_law_near", "_law_goal"]) (G__law_same : FnOk P w K mg base CX0 5 f__law_same fd__law_same ["_law_near", "_law_goal"] (FD (R_same 5))) (F : Fun K "_law_front_right" "_law_front_right" s__law_front_right f fd) : FnOk P w K mg base CX0 26 f fd [] (FD R_front) := by
  refine ok_fd F sc__law_front_right (fun ds d ⟨h, _⟩ => by rw [h]; rfl) (fun cdv A outer s H E hr => ⟨_, (pss_cons (ps_asg (pe_tup (pa_cons (pe_tup (pa_cons (pe_tup (pa_cons pe_str (pa_cons (pe_tup (pa_cons pe_int pa_nil)) pa_nil))) (pa_cons (pe_tup (pa_cons pe_str (pa_cons (pe_tup (pa_cons pe_int pa_nil)) pa_nil))) pa_nil))) (pa_cons (pe_tup (pa_cons (pe_tup (pa_cons pe_str (pa_cons (pe_tup (pa_cons pe_int pa_nil)) pa_nil))) pa_nil)) pa_nil))) (pg_tupK (K := K) (n := 2) rfl rfl (pgs_cons (pg_name (i := 0) sc__law_front_right.nd rfl (.inl rfl)) (pgs_cons (pg_name (i := 1) sc__law_front_right.nd rfl (.inl rfl)) pgs_nil))))
      (pss_cons (ps_set (i := 2) sc__law_front_right.nd rfl (.inl rfl) (pe_lst (pa_cons (pe_call G_order_of (hr.mono (by first | decide | exact Nat.le_refl _ | omega)) (by rfl) C_order_of.g C_order_of.k C_order_of.b .nil pass0 (pa_cons pe_int (pa_cons (pv 0) (pa_cons (pv 1) pa_nil)))) (pa_cons (pe_call G_are_one (hr.mono (by first | decide | exact Nat.le_refl _ | omega)) (by rfl) C_are_one.g C_are_one.k C_are_one.b .nil pass0 (pa_cons pe_int (pa_cons (pv 0) (pa_cons (pe_op (op_addK (K := K) rfl) (pv 0) (pv 0)) pa_nil)))) (pa_cons (pe_call G__law_heard (hr.mono (by first | decide | exact Nat.le_refl _ | omega)) (by rfl) C__law_heard.g C__law_heard.k C__law_heard.b .nil pass0 (pa_cons pe_int (pa_cons pe_int (pa_cons (pv 0) (pa_cons (pv 1) pa_nil))))) (pa_cons (pe_call G__law_heard (hr.mono (by first | decide | exact Nat.le_refl _ | omega)) (by rfl) C__law_heard.g C__law_heard.k C__law_heard.b .nil pass0 (pa_cons pe_int (pa_cons pe_int (pa_cons (pv 1) (pa_cons (pv 0) pa_nil))))) (pa_cons (pe_call G_letters_there (hr.mono (by first | decide | exact Nat.le_refl _ | omega)) (by rfl) C_letters_there.g C_letters_there.k C_letters_there.b .nil pass0 (pa_cons pe_int (pa_cons (pv 0) pa_nil))) (pa_cons (pe_call G__law_heard (hr.mono (by first | decide | exact Nat.le_refl _ | omega)) (by rfl) C__law_heard.g C__law_heard.k C__law_heard.b .nil pass0 (pa_cons pe_int (pa_cons pe_int (pa_cons (pv 0) (pa_cons pe_int pa_nil))))) (pa_cons (pe_call G__law_heard (hr.mono (by first | decide | exact Nat.le_refl _ | omega)) (by rfl) C__law_heard.g C__law_heard.k C__law_heard.b .nil pass0 (pa_cons pe_int (pa_cons pe_int (pa_cons (pv 0) (pa_cons pe_str pa_nil))))) (pa_cons (pe_call G_order_of (hr.mono (by first | decide | exact Nat.le_refl _ | omega)) (by rfl) C_order_of.g C_order_of.k C_order_of.b .nil pass0 (pa_cons pe_int (pa_cons (pe_tup (pa_cons (pe_tup (pa_cons pe_str (pa_cons (pe_tup (pa_cons pe_int (pa_cons pe_int pa_nil))) pa_nil))) (pa_cons (pe_tup (pa_cons pe_str (pa_cons (pe_tup (pa_cons pe_int (pa_cons pe_int pa_nil))) pa_nil))) pa_nil))) (pa_cons (pv 0) pa_nil)))) pa_nil))))))))))
      (pss_one (ps_ret (pe_call G__law_same (hr.mono (by first | decide | exact Nat.le_refl _ | omega)) (by rfl) C__law_same.g C__law_same.k C__law_same.b .nil pass0 (pa_cons (pv 2) (pa_cons (pe_lst (pa_cons pe_non (pa_cons pe_bl (pa_cons (pe_tup (pa_cons pe_int (pa_cons pe_int pa_nil))) (pa_cons (pe_tup (pa_cons pe_int (pa_cons pe_int pa_nil))) (pa_cons (pe_tup (pa_cons pe_int (pa_cons pe_str pa_nil))) (pa_cons (pe_tup (pa_cons pe_int pa_nil)) (pa_cons (pe_lst (pa_cons pe_str (pa_cons pe_bl pa_nil))) (pa_cons pe_str pa_nil))))))))) pa_nil))))))), ?_⟩)
  rintro O H ds d σ Q ⟨rfl, rfl⟩ A k
  have hb := nmF bF (by decide) (by decide)
  have hl := nmF lF (by decide) (by decide)
  have ha := nmF aF (by decide) (by decide)
  have hbb := nmF (bF ++ bF) (by decide) (by decide)
  refine s_seq (s_asg (Γ' := [.dat (eNm bF), .dat (eNm lF), .unk]) [0, 1] (ee_tup (ea_cons (ee_tup (ea_cons (ee_tup (ea_cons (ee_str "next") (ea_cons (ee_tup (ea_cons (ee_int 2) ea_nil) (by show 1 ≤ 1000; decide)) ea_nil)) (by show 2 ≤ 1000; decide)) (ea_cons (ee_tup (ea_cons (ee_str "last") (ea_cons (ee_tup (ea_cons (ee_int 1) ea_nil) (by show 1 ≤ 1000; decide)) ea_nil)) (by show 2 ≤ 1000; decide)) ea_nil)) (by show 2 ≤ 1000; decide))
    (ea_cons (ee_tup (ea_cons (ee_tup (ea_cons (ee_str "last") (ea_cons (ee_tup (ea_cons (ee_int 1) ea_nil) (by show 1 ≤ 1000; decide)) ea_nil)) (by show 2 ≤ 1000; decide)) ea_nil) (by show 1 ≤ 1000; decide)) ea_nil)) (by show 2 ≤ 1000; decide)) A (gt_tup (gts_cons (gt_name (by decide)) (gts_cons (gt_name (by decide)) gts_nil)) rfl) fun σ1 H1 A1 => ?_)
  have hG : (PyData.list [.none, .bool true, eTx [2, 1], eTx [2, 1], .tuple [.int 1, .str "front"], eTx [1], .list [.str "can not", .bool true], .str "behind"]) = .list [ordD 2 bF lF, .bool (oneB 2 bF (bF ++ bF)), heardD (unlD 2 bF lF), heardD (unlD 2 lF bF), thereD 2 bF, heardD (withD 2 bF (.inl 1)), heardD (withD 2 bF (.inr true)), ordD 2 aF bF] := by rw [g1, g2, g3, g4, g5, g6, g7, g8]
  refine s_seq (s_set (d := .list [.none, .bool true, eTx [2, 1], eTx [2, 1], .tuple [.int 1, .str "front"], eTx [1], .list [.str "can not", .bool true], .str "behind"]) (ee_sc (ee_lst (ea_cons (ee_call (FD.pd ⟨2, eNm bF, eNm lF, bF, lF, rfl, hb, hl, ok1, rfl⟩) (ea_cons (ee_int 2) (ea_cons (ee_var rfl) (ea_cons (ee_var rfl) ea_nil))))
    (ea_cons (ee_call (FD.pd ⟨2, eNm bF, eNm (bF ++ bF), bF, bF ++ bF, rfl, hb, hbb, ok2, rfl⟩) (ea_cons (ee_int 2) (ea_cons (ee_var rfl) (ea_cons (ee_sc (ee_op (od_addT (ds := bF.map ePr) (es := bF.map ePr) (by decide)) (ee_var rfl) (ee_var rfl)) rfl) ea_nil))))
    (ea_cons (ee_call (FD.pd (.inl ⟨2, eNm bF, eNm lF, bF, lF, rfl, hb, hl, ok1, rfl⟩)) (ea_cons (ee_int 0) (ea_cons (ee_int 2) (ea_cons (ee_var rfl) (ea_cons (ee_var rfl) ea_nil)))))
    (ea_cons (ee_call (FD.pd (.inl ⟨2, eNm lF, eNm bF, lF, bF, rfl, hl, hb, ok3, rfl⟩)) (ea_cons (ee_int 0) (ea_cons (ee_int 2) (ea_cons (ee_var rfl) (ea_cons (ee_var rfl) ea_nil)))))
    (ea_cons (ee_call (FD.pd ⟨2, eNm bF, bF, rfl, hb, ok4, rfl⟩) (ea_cons (ee_int 2) (ea_cons (ee_var rfl) ea_nil)))
    (ea_cons (ee_call (FD.pd (.inr ⟨2, eNm bF, bF, .inl 1, rfl, hb, ok4, rfl⟩)) (ea_cons (ee_int 1) (ea_cons (ee_int 2) (ea_cons (ee_var rfl) (ea_cons (ee_int 1) ea_nil)))))
    (ea_cons (ee_call (FD.pd (.inr ⟨2, eNm bF, bF, .inr true, rfl, hb, ok4, rfl⟩)) (ea_cons (ee_int 1) (ea_cons (ee_int 2) (ea_cons (ee_var rfl) (ea_cons (ee_str "back") ea_nil)))))
    (ea_cons (ee_call (FD.pd ⟨2, eNm aF, eNm bF, aF, bF, rfl, ha, hb, ok5, rfl⟩) (ea_cons (ee_int 2) (ea_cons (ee_tup (ea_cons (ee_tup (ea_cons (ee_str "last") (ea_cons (ee_tup (ea_cons (ee_int 1) (ea_cons (ee_int 2) ea_nil)) (by show 2 ≤ 1000; decide)) ea_nil)) (by show 2 ≤ 1000; decide)) (ea_cons (ee_tup (ea_cons (ee_str "next") (ea_cons (ee_tup (ea_cons (ee_int 1) (ea_cons (ee_int 2) ea_nil)) (by show 2 ≤ 1000; decide)) ea_nil)) (by show 2 ≤ 1000; decide)) ea_nil)) (by show 2 ≤ 1000; decide)) (ea_cons (ee_var rfl) ea_nil)))) ea_nil)))))))) (by show 8 ≤ 1000; decide)) hG.symm) A1 fun σ2 H2 A2 => ?_)
  refine s_retQ (H0 := H) (ee_call (FD.pd ⟨.list [.none, .bool true, eTx [2, 1], eTx [2, 1], .tuple [.int 1, .str "front"], eTx [1], .list [.str "can not", .bool true], .str "behind"], rfl, ?_, rfl⟩) (ea_cons (ee_var rfl) (ea_cons (ee_lst (ea_cons ee_non (ea_cons (ee_bl true) (ea_cons (ee_tup (ea_cons (ee_int 2) (ea_cons (ee_int 1) ea_nil)) (by show 2 ≤ 1000; decide)) (ea_cons (ee_tup (ea_cons (ee_int 2) (ea_cons (ee_int 1) ea_nil)) (by show 2 ≤ 1000; decide)) (ea_cons (ee_tup (ea_cons (ee_int 1) (ea_cons (ee_str "front") ea_nil)) (by show 2 ≤ 1000; decide)) (ea_cons (ee_tup (ea_cons (ee_int 1) ea_nil) (by show 1 ≤ 1000; decide))
    (ea_cons (ee_lst (ea_cons (ee_str "can not") (ea_cons (ee_bl true) ea_nil)) (by show 2 ≤ 1000; decide)) (ea_cons (ee_str "behind") ea_nil)))))))) (by show 8 ≤ 1000; decide)) ea_nil))) A2 (by simp) k
  refine tree_list (by show 8 ≤ 1000; decide) fun d hd => ?_
  simp only [List.mem_cons, List.not_mem_nil, or_false] at hd
  rcases hd with rfl | rfl | rfl | rfl | rfl | rfl | rfl | rfl
  · trivial
  · trivial
  · exact tree_tx (n := 2) (by decide)
  · exact tree_tx (n := 2) (by decide)
  · exact tree_stands (n := 2) (l := [.inl 1, .inr false]) (by decide)
  · exact tree_tx (n := 2) (by decide)
  · exact tree_heard (n := 2) (o := none) (fun t h => nomatch h)
  · trivial
end
end Nx
set_option maxHeartbeats 16000000
/-! the law's own defs, 6: what is right -/
namespace Nx
open PySem PySem.Spec PyProof.Rows L2
theorem zip_map2 {α : Type} (f g : α → PyData) (l : List α) : List.zipWith pairD (l.map f) (l.map g) = l.map fun x => pairD (f x) (g x) := by
  induction l with
  | nil => rfl
  | cons a l ih => rw [List.map_cons, List.map_cons, List.zipWith_cons_cons, ih]; rfl
theorem inV_strs (x : Str) : ∀ l : List Str, inV (.str x) (l.map V.str) = decide (x ∈ l)
  | [] => rfl
  | a :: l => by
    have ih := inV_strs x l
    unfold inV at ih ⊢
    rw [List.map_cons, List.any_cons, ih]
    show (a == x || decide (x ∈ l)) = decide (x ∈ a :: l)
    by_cases e : a = x
    · subst e; simp
    · have : ¬ x = a := fun z => e z.symm
      simp [e, this]
theorem lay_wd (a b : Nat) : lay 0 (.str (wd a b)) := by
  unfold wd
  split
  · exact lay_str (by rw [PyData.canLay0]; decide +kernel)
  · split
    · exact lay_str (by rw [PyData.canLay0]; decide +kernel)
    · exact lay_str (by rw [PyData.canLay0]; decide +kernel)
theorem filt_none {α : Type} (p : α → Bool) (l : List α) : (l.filter fun t => !p t).isEmpty = l.all p := by
  induction l with
  | nil => rfl
  | cons a l ih =>
    rw [List.filter_cons, List.all_cons]
    cases h : p a with
    | true => simp only [Bool.not_true, Bool.false_eq_true, if_false, Bool.true_and]; exact ih
    | false => rfl
abbrev gR (u : Addr) (x1 x2 x3 x4 x5 x6 x7 x8 x9 x10 x11 x12 x13 x14 x15 x16 : Slv) : List Slv := [.adr u, x1, x2, x3, x4, x5, x6, x7, x8, x9, x10, x11, x12, x13, x14, x15, x16, .unk]
section
variable {O : List Addr} {Bs : List (List Addr × Hp)} {σ : L2.St} {H : Hp} {Γ Γ2 : List Slv} {D : L2.Ends} {t : TT} {tu tw : TS} {K : PySem.W.Frag} {u : Addr} {m kk : Nat} {OkL : PyData → Prop} {te : TE} {g : TG}
theorem s_ifK {b : Bool} (h : ET t Γ b) (A : Ats O Bs σ H Γ) (k : ∀ σ' H', Same H H' → Ats O Bs σ' H' Γ2 → D.nx σ' H') (h1 : b = true → ∀ H', Same H H' → Ats O Bs σ H' Γ → (∀ σ' H'', Same H' H'' → Ats O Bs σ' H'' Γ2 → D.nx σ' H'') → tu D σ H') (h2 : b = false → ∀ H', Same H H' → Ats O Bs σ H' Γ → (∀ σ' H'', Same H' H'' → Ats O Bs σ' H'' Γ2 → D.nx σ' H'') → tw D σ H') : tIfS t tu tw D σ H :=
  s_if h A (fun hb H' e A' => h1 hb H' e A' fun σ' H'' e' A'' => k σ' H'' (e.trans e') A'') (fun hb H' e A' => h2 hb H' e A' fun σ' H'' e' A'' => k σ' H'' (e.trans e') A'')
theorem s_forU (h : EU te Γ u kk OkL) (A : Ats O Bs σ H Γ) (hu : u ∈ O) (hf : Fr Bs u) (hU : Urn H u m) (hm : m + kk ≤ 1000000) (k : ∀ d v H1, OkL d → Ats O Bs σ H1 Γ → Urn H1 u (m + kk) → Da (cut O H1) v d → tFor (iList K (fun _ H Q => Q v H)) g tu D σ H1) : tFor (iList K te) g tu D σ H :=
  h O Bs σ H m hu hf hU hm A _ fun d v H1 o e1 U1 A1 h1 => k d v H1 o A1 U1 h1
theorem ee_takeN {tj : TE} {N : Nm} {n : Nat} (h : EE te Γ (eNm N)) (hj : EE tj Γ (.int (n : Int))) : EE (tSl (rSlX K) te tNoPart (tPart tj)) Γ (eNm (N.take n)) := by
  have := ee_slT (K := K) h eo_none (eo_some hj)
  rw [cutD_to, ← List.map_take] at this
  exact this
theorem eh_val {v : V} {d : PyData} (h : Da (cut O H) v d) : EH (fun _ H Q => Q v H) O σ H d := fun H1 e1 Q q => q v H1 (Same.refl _) (h.mono (SL.of (cut_mono e1)))
end
section
variable {P : Program} {w : World} {K : PySem.W.Frag} {mg : Str → Option Value} {base : Heap}
def Post_right (ds : List PyData) (d : PyData) : Prop := d = .bool true
theorem ok_right {f : Addr} {fd : FuncData} (B : Bl mg) {f__law_take : Addr} {fd__law_take : FuncData} (C__law_take : Cl K mg "_law_take" f__law_take fd__law_take ["_law_urn", "_law_low_so"]) (G__law_take : FnOk P w K mg base CX0 1 f__law_take fd__law_take ["_law_urn", "_law_low_so"] (FU 1 Pre_take Post_take)) {f__law_naming : Addr} {fd__law_naming : FuncData} (C__law_naming : Cl K mg "_law_naming" f__law_naming fd__law_naming ["_law_urn", "_law_wide", "_law_most_so"]) (G__law_naming : FnOk P w K mg base CX0 4 f__law_naming fd__law_naming ["_law_urn", "_law_wide", "_law_most_so"] (FU 16 Pre_naming Post_naming))
    {f__law_words : Addr} {fd__law_words : FuncData} (C__law_words : Cl K mg "_law_words" f__law_words fd__law_words ["_law_wide", "_law_most_so"]) (G__law_words : FnOk P w K mg base CX0 1 f__law_words fd__law_words ["_law_wide", "_law_most_so"] (FD R_words)) {f__law_named : Addr} {fd__law_named : FuncData} (C__law_named : Cl K mg "_law_named" f__law_named fd__law_named ["_law_word_so", "_law_naming_here"]) (G__law_named : FnOk P w K mg base CX0 2 f__law_named fd__law_named ["_law_word_so", "_law_naming_here"] (FD R_named))
    {f__law_word : Addr} {fd__law_word : FuncData} (C__law_word : Cl K mg "_law_word" f__law_word fd__law_word ["_law_near", "_law_far"]) (G__law_word : FnOk P w K mg base CX0 1 f__law_word fd__law_word ["_law_near", "_law_far"] (FD R_word)) {f_order_of : Addr} {fd_order_of : FuncData} (C_order_of : Cl K mg "order_of" f_order_of fd_order_of ["wide", "one", "other"]) (G_order_of : FnOk P w K mg base CX0 24 f_order_of fd_order_of ["wide", "one", "other"] (FD R_order_of)) {f__law_lists : Addr} {fd__law_lists : FuncData} (C__law_lists : Cl K mg "_law_lists" f__law_lists fd__law_lists ["_law_matter"]) (G__law_lists : FnOk P w K mg base CX0 4 f__law_lists fd__law_lists ["_law_matter"] (FD (R_lists 4)))
    {f_are_one : Addr} {fd_are_one : FuncData} (C_are_one : Cl K mg "are_one" f_are_one fd_are_one ["wide", "one", "other"]) (G_are_one : FnOk P w K mg base CX0 25 f_are_one fd_are_one ["wide", "one", "other"] (FD R_are_one)) {f__law_heard : Addr} {fd__law_heard : FuncData} (C__law_heard : Cl K mg "_law_heard" f__law_heard fd__law_heard ["_law_door", "_law_wide", "_law_one", "_law_two"]) (G__law_heard : FnOk P w K mg base CX0 25 f__law_heard fd__law_heard ["_law_door", "_law_wide", "_law_one", "_law_two"] (FD R_heard)) {f__law_same : Addr} {fd__law_same : FuncData} (C__law_same : Cl K mg "_law_same" f__law_same fd__law_same ["_law_near", "_law_goal"]) (G__law_same : FnOk P w K mg base CX0 5 f__law_same fd__law_same ["_law_near", "_law_goal"] (FD (R_same 5)))
    {f__law_text : Addr} {fd__law_text : FuncData} (C__law_text : Cl K mg "_law_text" f__law_text fd__law_text ["_law_urn", "_law_wide", "_law_most_so"]) (G__law_text : FnOk P w K mg base CX0 2 f__law_text fd__law_text ["_law_urn", "_law_wide", "_law_most_so"] (FU 13 Pre_text Post_text)) {f__law_at : Addr} {fd__law_at : FuncData} (C__law_at : Cl K mg "_law_at" f__law_at fd__law_at ["_law_word_so", "_law_place_so"]) (G__law_at : FnOk P w K mg base CX0 1 f__law_at fd__law_at ["_law_word_so", "_law_place_so"] (FD R_at)) {f_letters_there : Addr} {fd_letters_there : FuncData} (C_letters_there : Cl K mg "letters_there" f_letters_there fd_letters_there ["wide", "naming"]) (G_letters_there : FnOk P w K mg base CX0 24 f_letters_there fd_letters_there ["wide", "naming"] (FD R_letters_there))
    {f__law_of : Addr} {fd__law_of : FuncData} (C__law_of : Cl K mg "_law_of" f__law_of fd__law_of ["_law_urn", "_law_some_so"]) (G__law_of : FnOk P w K mg base CX0 2 f__law_of fd__law_of ["_law_urn", "_law_some_so"] (FU 1 Pre_of Post_of)) (F : Fun K "_law_right" "_law_right" s__law_right f fd) : FnOk P w K mg base CX0 26 f fd ["_law_urn"] (FU 200 (fun ds => ds = []) Post_right) := by
  refine ok_fu F sc__law_right (fun ds h => by rw [h]; rfl) (fun cdv A outer s H E hr => ⟨_, (pss_cons (ps_set (i := 1) sc__law_right.nd rfl (.inl rfl) (pe_op (op_addK (K := K) rfl) pe_int (pe_call G__law_take (hr.mono (by first | decide | exact Nat.le_refl _ | omega)) (by rfl) C__law_take.g C__law_take.k C__law_take.b .nil pass0 (pa_cons (pv 0) (pa_cons pe_int pa_nil)))))
      (pss_cons (ps_asg (pe_tup (pa_cons (pe_call G__law_naming (hr.mono (by first | decide | exact Nat.le_refl _ | omega)) (by rfl) C__law_naming.g C__law_naming.k C__law_naming.b .nil pass0 (pa_cons (pv 0) (pa_cons (pv 1) (pa_cons (pe_op op_sub pe_int (pv 1)) pa_nil)))) (pa_cons (pe_call G__law_naming (hr.mono (by first | decide | exact Nat.le_refl _ | omega)) (by rfl) C__law_naming.g C__law_naming.k C__law_naming.b .nil pass0 (pa_cons (pv 0) (pa_cons (pv 1) (pa_cons (pe_op op_sub pe_int (pv 1)) pa_nil)))) pa_nil))) (pg_tupK (K := K) (n := 2) rfl rfl (pgs_cons (pg_name (i := 2) sc__law_right.nd rfl (.inr rfl)) (pgs_cons (pg_name (i := 3) sc__law_right.nd rfl (.inr rfl)) pgs_nil))))
      (pss_cons (ps_set (i := 4) sc__law_right.nd rfl (.inl rfl) (pe_call G__law_take (hr.mono (by first | decide | exact Nat.le_refl _ | omega)) (by rfl) C__law_take.g C__law_take.k C__law_take.b .nil pass0 (pa_cons (pv 0) (pa_cons pe_int pa_nil))))
      (pss_cons (ps_if (pt_cmpR op_eq (pv 4) pe_int (nomark _)) (pss_one (ps_set (i := 3) sc__law_right.nd rfl (.inr rfl) (pe_op (op_addK (K := K) rfl) (pe_slice (sl_K (K := K) rfl) (pv 2) po_none (po_some (pe_op op_sub (pe_callB (len_K (K := K) rfl) (by rfl) B.len PySem.boot_len (pa_cons (pv 2) pa_nil)) pe_int))) (pe_slice (sl_K (K := K) rfl) (pv 3) po_none (po_some pe_int))))) pss_nil)
      (pss_cons (ps_if (pt_cmpR op_eq (pv 4) pe_int (nomark _)) (pss_one (ps_set (i := 3) sc__law_right.nd rfl (.inr rfl) (pe_slice (sl_K (K := K) rfl) (pv 2) po_none (po_some pe_int)))) pss_nil)
      (pss_cons (ps_set (i := 5) sc__law_right.nd rfl (.inl rfl) (pe_call G__law_words (hr.mono (by first | decide | exact Nat.le_refl _ | omega)) (by rfl) C__law_words.g C__law_words.k C__law_words.b .nil pass0 (pa_cons (pv 1) (pa_cons (pe_op (op_addK (K := K) rfl) (pe_callB (len_K (K := K) rfl) (by rfl) B.len PySem.boot_len (pa_cons (pv 2) pa_nil)) (pe_callB (len_K (K := K) rfl) (by rfl) B.len PySem.boot_len (pa_cons (pv 3) pa_nil))) pa_nil))))
      (pss_cons (ps_setLc (i := 7) (own := [("_law_own", 6)]) rfl sc__law_right.nd rfl rfl (sw_true rfl rfl rfl (by decide +kernel)) (pi_listK (K := K) rfl (pv 5)) (blkOk_by (N := ["_law_urn", "_law_wide", "_law_one", "_law_two", "_law_kind_so", "_law_words_so", "_law_own", "_law_places_so", "_law_ways_so", "_law_due", "_law_apart", "_law_got", "_law_lap", "_law_word_so", "_law_there", "_law_kinds_so", "_law_goods_so", "_law_its"]) (sc := (defScope s__law_right)) (by decide +kernel)) (fun _ _ _ _ _ => (pg_name (i := 6) sc__law_right.nd rfl (.inl rfl))) (fun _ _ _ _ _ => pts_nil) (fun _ _ _ _ _ => (pe_tup (pa_cons (pe_call G__law_named (hr.mono (by first | decide | exact Nat.le_refl _ | omega)) (by rfl) C__law_named.g C__law_named.k C__law_named.b .nil pass0 (pa_cons (pv 6) (pa_cons (pv 2) pa_nil))) (pa_cons (pe_call G__law_named (hr.mono (by first | decide | exact Nat.le_refl _ | omega)) (by rfl) C__law_named.g C__law_named.k C__law_named.b .nil pass0 (pa_cons (pv 6) (pa_cons (pv 3) pa_nil))) pa_nil)))))
      (pss_cons (ps_set (i := 8) sc__law_right.nd rfl (.inr rfl) (pe_lc (own := [("_law_own", 6)]) rfl sc__law_right.nd (pi_listK (K := K) rfl (pv 7)) (blkOk_by (N := ["_law_urn", "_law_wide", "_law_one", "_law_two", "_law_kind_so", "_law_words_so", "_law_own", "_law_places_so", "_law_ways_so", "_law_due", "_law_apart", "_law_got", "_law_lap", "_law_word_so", "_law_there", "_law_kinds_so", "_law_goods_so", "_law_its"]) (sc := (defScope s__law_right)) (by decide +kernel)) (fun _ _ _ _ _ => (pg_name (i := 6) sc__law_right.nd rfl (.inl rfl))) (fun _ _ _ _ _ => pts_nil) (fun _ _ _ _ _ => (pe_call G__law_word (hr.mono (by first | decide | exact Nat.le_refl _ | omega)) (by rfl) C__law_word.g C__law_word.k C__law_word.b .nil pass0 (pa_cons (pe_ix (ix_seqK (K := K) rfl) (pv 6) pe_int (fun _ _ => rfl)) (pa_cons (pe_ix (ix_seqK (K := K) rfl) (pv 6) pe_int (fun _ _ => rfl)) pa_nil))))))
      (pss_cons (ps_set (i := 9) sc__law_right.nd rfl (.inl rfl) (pe_ifExp (pt_cmpR (op_eqK (K := K) rfl hr.units) (pe_lc (own := [("_law_own", 6)]) rfl sc__law_right.nd (pi_listK (K := K) rfl (pv 8)) (blkOk_by (N := ["_law_urn", "_law_wide", "_law_one", "_law_two", "_law_kind_so", "_law_words_so", "_law_own", "_law_places_so", "_law_ways_so", "_law_due", "_law_apart", "_law_got", "_law_lap", "_law_word_so", "_law_there", "_law_kinds_so", "_law_goods_so", "_law_its"]) (sc := (defScope s__law_right)) (by decide +kernel)) (fun _ _ _ _ _ => (pg_name (i := 6) sc__law_right.nd rfl (.inl rfl))) (fun _ _ _ _ _ => (pts_one (pt_cmpR op_ne (pv 6) (pe_ix (ix_seqK (K := K) rfl) (pv 8) pe_int (fun _ _ => rfl)) (nomark _)))) (fun _ _ _ _ _ => (pv 6))) (pe_lst pa_nil) (nomark _)) (pe_ix (ix_seqK (K := K) rfl) (pv 8) pe_int (fun _ _ => rfl)) pe_non))
      (pss_cons (ps_setLc (i := 10) (own := [("_law_own", 6), ("_law_its", 17)]) rfl sc__law_right.nd rfl rfl (sw_true rfl rfl rfl (by decide +kernel)) (pi_zipK (K := K) rfl (by rfl) B.zip (pa_cons (pv 5) (pa_cons (pv 8) pa_nil))) (blkOk_by (N := ["_law_urn", "_law_wide", "_law_one", "_law_two", "_law_kind_so", "_law_words_so", "_law_own", "_law_places_so", "_law_ways_so", "_law_due", "_law_apart", "_law_got", "_law_lap", "_law_word_so", "_law_there", "_law_kinds_so", "_law_goods_so", "_law_its"]) (sc := (defScope s__law_right)) (by decide +kernel)) (fun _ _ _ _ _ => (pg_tupK (K := K) (n := 2) rfl rfl (pgs_cons (pg_name (i := 6) sc__law_right.nd rfl (.inl rfl)) (pgs_cons (pg_name (i := 17) sc__law_right.nd rfl (.inl rfl)) pgs_nil)))) (fun _ _ _ _ _ => (pts_one (pt_cmpR op_ne (pv 17) pe_str (nomark _)))) (fun _ _ _ _ _ => (pv 6)))
      (pss_cons (ps_set (i := 11) sc__law_right.nd rfl (.inl rfl) (pe_lst (pa_cons (pe_call G_order_of (hr.mono (by first | decide | exact Nat.le_refl _ | omega)) (by rfl) C_order_of.g C_order_of.k C_order_of.b .nil pass0 (pa_cons (pv 1) (pa_cons (pv 2) (pa_cons (pv 3) pa_nil)))) (pa_cons (pe_call G_order_of (hr.mono (by first | decide | exact Nat.le_refl _ | omega)) (by rfl) C_order_of.g C_order_of.k C_order_of.b .nil pass0 (pa_cons (pv 1) (pa_cons (pe_call G__law_lists (hr.mono (by first | decide | exact Nat.le_refl _ | omega)) (by rfl) C__law_lists.g C__law_lists.k C__law_lists.b .nil pass0 (pa_cons (pv 2) pa_nil)) (pa_cons (pe_call G__law_lists (hr.mono (by first | decide | exact Nat.le_refl _ | omega)) (by rfl) C__law_lists.g C__law_lists.k C__law_lists.b .nil pass0 (pa_cons (pv 3) pa_nil)) pa_nil)))) (pa_cons (pe_call G_are_one (hr.mono (by first | decide | exact Nat.le_refl _ | omega)) (by rfl) C_are_one.g C_are_one.k C_are_one.b .nil pass0 (pa_cons (pv 1) (pa_cons (pv 2) (pa_cons (pv 3) pa_nil)))) (pa_cons (pe_call G__law_heard (hr.mono (by first | decide | exact Nat.le_refl _ | omega)) (by rfl) C__law_heard.g C__law_heard.k C__law_heard.b .nil pass0 (pa_cons pe_int (pa_cons (pv 1) (pa_cons (pv 2) (pa_cons (pv 3) pa_nil))))) pa_nil))))))
      (pss_cons (ps_if (pt_not (pt_val (pe_call G__law_same (hr.mono (by first | decide | exact Nat.le_refl _ | omega)) (by rfl) C__law_same.g C__law_same.k C__law_same.b .nil pass0 (pa_cons (pv 11) (pa_cons (pe_lst (pa_cons (pv 9) (pa_cons (pv 9) (pa_cons (pe_cmpR op_eq (pv 9) pe_str (nomark _)) (pa_cons (pe_ifExp (pt_cmpR (op_neK (K := K) rfl hr.units) (pv 10) (pe_lst pa_nil) (nomark _)) (pe_ix (ix_seqK (K := K) rfl) (pv 10) pe_int (fun _ _ => rfl)) (pe_lst (pa_cons pe_str (pa_cons pe_bl pa_nil)))) pa_nil))))) pa_nil))))) (pss_one (ps_ret pe_bl)) pss_nil)
      (pss_cons (ps_for PassesOwn.never rfl (pi_range1 (by rfl) B.range (pa_cons pe_int pa_nil)) (pg_name (i := 12) sc__law_right.nd rfl (.inl rfl)) (pss_cons (ps_set (i := 13) sc__law_right.nd rfl (.inl rfl) (pe_call G__law_text (hr.mono (by first | decide | exact Nat.le_refl _ | omega)) (by rfl) C__law_text.g C__law_text.k C__law_text.b .nil pass0 (pa_cons (pv 0) (pa_cons (pv 1) (pa_cons pe_int pa_nil)))))
      (pss_one (ps_if (pt_cmpR (op_notInK (K := K) rfl) (pe_call G__law_word (hr.mono (by first | decide | exact Nat.le_refl _ | omega)) (by rfl) C__law_word.g C__law_word.k C__law_word.b .nil pass0 (pa_cons (pe_call G__law_named (hr.mono (by first | decide | exact Nat.le_refl _ | omega)) (by rfl) C__law_named.g C__law_named.k C__law_named.b .nil pass0 (pa_cons (pv 13) (pa_cons (pv 2) pa_nil))) (pa_cons (pe_call G__law_named (hr.mono (by first | decide | exact Nat.le_refl _ | omega)) (by rfl) C__law_named.g C__law_named.k C__law_named.b .nil pass0 (pa_cons (pv 13) (pa_cons (pv 3) pa_nil))) pa_nil))) (pv 8) (by rfl)) (pss_one (ps_ret pe_bl)) pss_nil))))
      (pss_cons (ps_set (i := 14) sc__law_right.nd rfl (.inr rfl) (pe_lc (own := [("_law_own", 6), ("_law_its", 17)]) rfl sc__law_right.nd (pi_zipK (K := K) rfl (by rfl) B.zip (pa_cons (pv 5) (pa_cons (pv 7) pa_nil))) (blkOk_by (N := ["_law_urn", "_law_wide", "_law_one", "_law_two", "_law_kind_so", "_law_words_so", "_law_own", "_law_places_so", "_law_ways_so", "_law_due", "_law_apart", "_law_got", "_law_lap", "_law_word_so", "_law_there", "_law_kinds_so", "_law_goods_so", "_law_its"]) (sc := (defScope s__law_right)) (by decide +kernel)) (fun _ _ _ _ _ => (pg_tupK (K := K) (n := 2) rfl rfl (pgs_cons (pg_name (i := 6) sc__law_right.nd rfl (.inl rfl)) (pgs_cons (pg_name (i := 17) sc__law_right.nd rfl (.inl rfl)) pgs_nil)))) (fun _ _ _ _ _ => pts_nil) (fun _ _ _ _ _ => (pe_call G__law_at (hr.mono (by first | decide | exact Nat.le_refl _ | omega)) (by rfl) C__law_at.g C__law_at.k C__law_at.b .nil pass0 (pa_cons (pv 6) (pa_cons (pe_ix (ix_seqK (K := K) rfl) (pv 17) pe_int (fun _ _ => rfl)) pa_nil))))))
      (pss_cons (ps_setLc (i := 15) (own := [("_law_own", 6)]) rfl sc__law_right.nd rfl rfl (sw_true rfl rfl rfl (by decide +kernel)) (pi_listK (K := K) rfl (pe_op (op_addK (K := K) rfl) (pe_listRg rfl (by rfl) B.list (prg_2 (by rfl) B.range pe_int (pe_op (op_addK (K := K) rfl) (pv 1) pe_int))) (pe_lst (pa_cons pe_str (pa_cons pe_str pa_nil))))) (blkOk_by (N := ["_law_urn", "_law_wide", "_law_one", "_law_two", "_law_kind_so", "_law_words_so", "_law_own", "_law_places_so", "_law_ways_so", "_law_due", "_law_apart", "_law_got", "_law_lap", "_law_word_so", "_law_there", "_law_kinds_so", "_law_goods_so", "_law_its"]) (sc := (defScope s__law_right)) (by decide +kernel)) (fun _ _ _ _ _ => (pg_name (i := 6) sc__law_right.nd rfl (.inl rfl))) (fun _ _ _ _ _ => (pts_one (pt_cmpR (op_inK (K := K) rfl) (pv 6) (pv 14) (by rfl)))) (fun _ _ _ _ _ => (pv 6)))
      (pss_cons (ps_if (pt_not (pt_val (pe_call G__law_same (hr.mono (by first | decide | exact Nat.le_refl _ | omega)) (by rfl) C__law_same.g C__law_same.k C__law_same.b .nil pass0 (pa_cons (pe_lst (pa_cons (pe_call G_letters_there (hr.mono (by first | decide | exact Nat.le_refl _ | omega)) (by rfl) C_letters_there.g C_letters_there.k C_letters_there.b .nil pass0 (pa_cons (pv 1) (pa_cons (pv 2) pa_nil))) (pa_cons (pe_call G_letters_there (hr.mono (by first | decide | exact Nat.le_refl _ | omega)) (by rfl) C_letters_there.g C_letters_there.k C_letters_there.b .nil pass0 (pa_cons (pv 1) (pa_cons (pe_call G__law_lists (hr.mono (by first | decide | exact Nat.le_refl _ | omega)) (by rfl) C__law_lists.g C__law_lists.k C__law_lists.b .nil pass0 (pa_cons (pv 2) pa_nil)) pa_nil))) pa_nil))) (pa_cons (pe_op op_rep (pe_lst (pa_cons (pe_callTy (tup_K (K := K) rfl) (by rfl) B.tuple (by decide +kernel) (pa_cons (pv 15) pa_nil)) pa_nil)) pe_int) pa_nil))))) (pss_one (ps_ret pe_bl)) pss_nil)
      (pss_cons (ps_for PassesOwn.never rfl (pi_listK (K := K) rfl (pe_lst (pa_cons (pe_op (op_addK (K := K) rfl) pe_int (pe_call G__law_take (hr.mono (by first | decide | exact Nat.le_refl _ | omega)) (by rfl) C__law_take.g C__law_take.k C__law_take.b .nil pass0 (pa_cons (pv 0) (pa_cons (pv 1) pa_nil)))) (pa_cons (pe_call G__law_of (hr.mono (by first | decide | exact Nat.le_refl _ | omega)) (by rfl) C__law_of.g C__law_of.k C__law_of.b .nil pass0 (pa_cons (pv 0) (pa_cons (pe_lst (pa_cons pe_str (pa_cons pe_str pa_nil))) pa_nil))) pa_nil)))) (pg_name (i := 6) sc__law_right.nd rfl (.inr rfl)) (pss_cons (ps_setLc (i := 16) (own := [("_law_word_so", 13), ("_law_its", 17)]) rfl sc__law_right.nd rfl rfl (sw_true rfl rfl rfl (by decide +kernel)) (pi_zipK (K := K) rfl (by rfl) B.zip (pa_cons (pv 5) (pa_cons (pv 14) pa_nil))) (blkOk_by (N := ["_law_urn", "_law_wide", "_law_one", "_law_two", "_law_kind_so", "_law_words_so", "_law_own", "_law_places_so", "_law_ways_so", "_law_due", "_law_apart", "_law_got", "_law_lap", "_law_word_so", "_law_there", "_law_kinds_so", "_law_goods_so", "_law_its"]) (sc := (defScope s__law_right)) (by decide +kernel)) (fun _ _ _ _ _ => (pg_tupK (K := K) (n := 2) rfl rfl (pgs_cons (pg_name (i := 13) sc__law_right.nd rfl (.inl rfl)) (pgs_cons (pg_name (i := 17) sc__law_right.nd rfl (.inl rfl)) pgs_nil)))) (fun _ _ _ _ _ => (pts_one (pt_cmpR op_eq (pv 17) (pv 6) (nomark _)))) (fun _ _ _ _ _ => (pv 13)))
      (pss_one (ps_if (pt_not (pt_val (pe_call G__law_same (hr.mono (by first | decide | exact Nat.le_refl _ | omega)) (by rfl) C__law_same.g C__law_same.k C__law_same.b .nil pass0 (pa_cons (pe_call G__law_heard (hr.mono (by first | decide | exact Nat.le_refl _ | omega)) (by rfl) C__law_heard.g C__law_heard.k C__law_heard.b .nil pass0 (pa_cons pe_int (pa_cons (pv 1) (pa_cons (pv 2) (pa_cons (pv 6) pa_nil))))) (pa_cons (pe_ifExp (pt_cmpR (op_neK (K := K) rfl hr.units) (pv 16) (pe_lst pa_nil) (nomark _)) (pe_ix (ix_seqK (K := K) rfl) (pv 16) pe_int (fun _ _ => rfl)) (pe_lst (pa_cons pe_str (pa_cons pe_bl pa_nil)))) pa_nil))))) (pss_one (ps_ret pe_bl)) pss_nil))))
      (pss_one (ps_ret pe_bl))))))))))))))))))), ?_⟩)
  rintro O H u m ds σ Q rfl hu hU hm A k
  have hf : Fr [([u], H)] u := fun p hp => by rw [List.mem_singleton.mp hp]; exact .inl (List.mem_singleton.mpr rfl)
  -- wide
  refine s_seq (s_setU (i := 1) (kk := 0 + 1) (Ok := fun d => ∃ W : Nat, d = .int (W : Int) ∧ 2 ≤ W ∧ W ≤ 3) (eu_op (eu_of (ee_int 2)) (eu_take (n := 2) (i := 0) rfl (ee_int 2) (by decide) (by decide)) fun d1 d2 e1 ⟨r, e2, e3⟩ => ⟨.int (2 + (r : Int)), by rw [e1, e2]; exact od_addI _ _, 2 + r, by rfl, by omega, by omega⟩) A hu hf hU (by omega) fun d σ1 H1 ⟨W, hd, hW2, hW3⟩ A1 U1 => ?_)
  subst hd
  -- one, two
  have eN : ∀ {Γ : List Slv}, Γ[0]? = some (.adr u) → Γ[1]? = some (.dat (.int (W : Int))) → EU (tCall (FU 16 Pre_naming Post_naming) [] E0 (tCons (tVar 0) (tCons (tVar 1) (tCons (tOp (rI0 fun i j => .int (i - j)) (tC (.int 5)) (tVar 1)) tNil)))) Γ u ((0 + (0 + 0)) + 16) (fun d => ∃ N : Nm, d = eNm N ∧ N ≠ [] ∧ N.length ≤ 5 - W ∧ ∀ pr ∈ N, pr.2.length ≤ 3) := fun {Γ} h0 h1 =>
    eu_is (eu_call (i := 0) h0 (eua_cons (eu_of (ee_var h1)) (eua_cons (eu_of (ee_op (od_sub 5 W) (ee_int 5) (ee_var h1))) eua_nil)) (fun ds ⟨d, es, e1, e2, d3, es2, e3, e4, e5⟩ => ⟨W, 5 - W, by rw [e1, e2, e3, e4, e5, show (5 : Int) - (W : Int) = ((5 - W : Nat) : Int) by omega], by omega, hW3, by omega, by omega⟩)) fun d ⟨ds, ⟨d1, es, q1, q2, d3, es2, q3, q4, q5⟩, W', n, N, h1, hd, h2, h3, h4⟩ => by
      subst q1 q2 q3 q4 q5
      simp only [List.cons.injEq, PyData.int.injEq, and_true] at h1
      exact ⟨N, hd, h2, by omega, h4⟩
  refine s_seq (s_asgU (kk := ((0 + (0 + 0)) + 16) + (((0 + (0 + 0)) + 16) + 0)) (Ok := fun d => ∃ N1 N2 : Nm, d = .tuple [eNm N1, eNm N2] ∧ (N1 ≠ [] ∧ N1.length ≤ 5 - W ∧ ∀ pr ∈ N1, pr.2.length ≤ 3) ∧ (N2 ≠ [] ∧ N2.length ≤ 5 - W ∧ ∀ pr ∈ N2, pr.2.length ≤ 3)) (Γ' := fun d => match d with
      | .tuple [a, b] => gR u (.dat (.int (W : Int))) (.dat a) (.dat b) .unk .unk .unk .unk .unk .unk .unk .unk .unk .unk .unk .unk .unk
      | _ => []) [2, 3] (eu_is (eu_tup (eua_cons (eN rfl rfl) (eua_cons (eN rfl rfl) eua_nil)) fun ds ⟨d, es, e1, _, d2, es2, e2, _, e3⟩ => by rw [e1, e2, e3]; show 2 ≤ 1000; decide) fun d ⟨ds, e0, d1, es, e1, ⟨N1, e2, e3⟩, d2, es2, e4, ⟨N2, e5, e6⟩, e7⟩ => ⟨N1, N2, by rw [e0, e1, e2, e4, e5, e7], e3, e6⟩) A1
    (fun d ⟨N1, N2, hd, _⟩ => by subst hd; exact gt_tup (gts_cons (gt_name (by decide)) (gts_cons (gt_name (by decide)) gts_nil)) rfl) hu hf U1 (by omega) fun d σ2 H2 ⟨N1, N2, hd, ⟨h10, h11, h12⟩, h20, h21, h22⟩ A2 U2 => ?_)
  subst hd
  have A2' : Ats O [([u], H)] σ2 H2 (gR u (.dat (.int (W : Int))) (.dat (eNm N1)) (.dat (eNm N2)) .unk .unk .unk .unk .unk .unk .unk .unk .unk .unk .unk .unk .unk) := A2
  -- kind
  refine s_seq (s_setU (i := 4) (eu_take (n := 4) (i := 0) rfl (ee_int 4) (by decide) (by decide)) A2' hu hf U2 (by omega) fun d σ3 H3 ⟨r, hd, hr4⟩ A3 U3 => ?_)
  subst hd
  have hp1 := List.length_pos_iff.mpr h10
  have hp2 := List.length_pos_iff.mpr h20
  -- the two shapes
  obtain ⟨N3, hN3⟩ : ∃ N3 : Nm, N3 = if r = 0 then N1.take (N1.length - 1) ++ N2.take 1 else N2 := ⟨_, rfl⟩
  have h3 : N3 ≠ [] ∧ N3.length ≤ 5 - W ∧ ∀ pr ∈ N3, pr.2.length ≤ 3 := by
    rw [hN3]
    split
    · refine ⟨fun z => ?_, ?_, fun pr hp => ?_⟩
      · have := congrArg List.length z
        rw [List.length_append, List.length_take, List.length_take] at this
        simp only [List.length_nil] at this
        omega
      · rw [List.length_append, List.length_take, List.length_take]; omega
      · rcases List.mem_append.mp hp with c | c
        · exact h12 pr (List.mem_of_mem_take c)
        · exact h22 pr (List.mem_of_mem_take c)
    · exact ⟨h20, h21, h22⟩
  refine s_seq (s_ifK (Γ2 := gR u (.dat (.int (W : Int))) (.dat (eNm N1)) (.dat (eNm N3)) (.dat (.int (r : Int))) .unk .unk .unk .unk .unk .unk .unk .unk .unk .unk .unk .unk) (b := decide (r = 0)) (et_eqN (ee_var rfl) (ee_int _)) A3 (fun σ4 H4 e4 A4 => ?_) (fun hb H' e A' kk => ?_) (fun hb H' e A' kk => ?_))
  rotate_left
  · refine s_setE (ee_sc (ee_op (od_addT (ds := (N1.take (N1.length - 1)).map ePr) (es := (N2.take 1).map ePr) (by rw [List.length_map, List.length_map, List.length_take, List.length_take]; omega)) (ee_takeN (ee_var rfl) (ee_pred (by omega) (ee_lenN (ee_var rfl)))) (ee_takeN (n := 1) (ee_var rfl) (ee_int _))) (d2 := eNm N3) (by
      rw [hN3, if_pos (of_decide_eq_true hb), ← List.map_append]
      rfl)) A' fun σ5 H5 e5 A5 => kk σ5 H5 e5 A5
  · refine s_next (kk _ _ (Same.refl _) ?_)
    have e : N3 = N2 := by rw [hN3, if_neg (of_decide_eq_false hb)]
    rw [e]
    exact A'
  obtain ⟨N4, hN4⟩ : ∃ N4 : Nm, N4 = if r = 1 then N1.take 1 else N3 := ⟨_, rfl⟩
  have h4 : N4 ≠ [] ∧ N4.length ≤ 5 - W ∧ ∀ pr ∈ N4, pr.2.length ≤ 3 := by
    rw [hN4]
    split
    · refine ⟨fun z => ?_, ?_, fun pr hp => ?_⟩
      · have := congrArg List.length z
        rw [List.length_take] at this
        simp only [List.length_nil] at this
        omega
      · rw [List.length_take]; omega
      · exact h12 pr (List.mem_of_mem_take hp)
    · exact h3
  have U4 := U3.mono e4
  refine s_seq (s_ifK (Γ2 := gR u (.dat (.int (W : Int))) (.dat (eNm N1)) (.dat (eNm N4)) (.dat (.int (r : Int))) .unk .unk .unk .unk .unk .unk .unk .unk .unk .unk .unk .unk) (b := decide (r = 1)) (et_eqN (ee_var rfl) (ee_int _)) A4 (fun σ5 H5 e5 A5 => ?_) (fun hb H' e A' kk => ?_) (fun hb H' e A' kk => ?_))
  rotate_left
  · refine s_setE (ee_sc (ee_takeN (n := 1) (ee_var rfl) (ee_int _)) (d2 := eNm N4) (by rw [hN4, if_pos (of_decide_eq_true hb)])) A' fun σ5 H5 e5 A5 => kk σ5 H5 e5 A5
  · refine s_next (kk _ _ (Same.refl _) ?_)
    have e : N4 = N3 := by rw [hN4, if_neg (of_decide_eq_false hb)]
    rw [e]
    exact A'
  have U5 := U4.mono e5
  clear A4 A3 A2 A2' A1 eN
  obtain ⟨h40, h41, h42⟩ := h4
  have hp4 := List.length_pos_iff.mpr h40
  have hOk : NsOk W [N1, N4] := nsok_two h10 h40 (by omega)
  have hOk1 := nsok_one hOk
  have hD1 : NmD (eNm N1) N1 := nmd_nm (by omega) fun pr hp => by have := h12 pr hp; omega
  have hD4 : NmD (eNm N4) N4 := nmd_nm (by omega) fun pr hp => by have := h42 pr hp; omega
  have hL1 : NmD (listD 4 (eNm N1)) N1 := nmd_lists (by omega) fun pr hp => by have := h12 pr hp; omega
  have hL4 : NmD (listD 4 (eNm N4)) N4 := nmd_lists (by omega) fun pr hp => by have := h42 pr hp; omega
  have hK : pairs [N1, N4] ≤ N1.length + N4.length := by show N1.length + (N4.length + 0) ≤ _; omega
  have hK1 : pairs [N1] ≤ N1.length + N4.length := by show N1.length + 0 ≤ _; omega
  have hKs : N1.length + N4.length ≤ 6 := by omega
  obtain ⟨KK, hKK⟩ : ∃ KK, KK = N1.length + N4.length := ⟨_, rfl⟩
  rw [← hKK] at hK hK1 hKs
  -- words
  refine s_seq (s_setE (ee_call (FD.pd ⟨W, KK, rfl, by omega, hW3, hKs, rfl⟩) (ea_cons (ee_var rfl) (ea_cons (ee_sc (ee_op (od_addI _ _) (ee_lenN (ee_var rfl)) (ee_lenN (ee_var rfl))) (by rw [hKK, Int.natCast_add])) ea_nil))) A5 fun σ6 H6 e6 A6 => ?_)
  have U6 := U5.mono e6
  obtain ⟨ws, hws⟩ : ∃ ws, ws = words W KK := ⟨_, rfl⟩
  have hwl : ws.length ≤ 5103 := by rw [hws]; exact words_small (by omega) hW3 hKs
  have hwt : ∀ t ∈ ws, t.length ≤ 6 ∧ okT W t := fun t ht => by
    rw [hws] at ht
    have := mem_words.mp ht
    exact ⟨by omega, this.1⟩
  obtain ⟨rest, hrest⟩ := little_first W KK
  rw [← hws] at A6 hrest
  have wsh : ∀ {f : Tx → Str}, (∀ t, ∃ a b, f t = wd a b) → ∀ l : List Tx, SeqAt.shaped (.list (l.map fun t => PyData.str (f t))) = true := fun {f} hf l => shaped_of (n := 1) (lay_list fun d hd => by
    obtain ⟨t, _, rfl⟩ := List.mem_map.mp hd
    obtain ⟨a, b, e⟩ := hf t
    rw [e]
    exact lay_wd a b) (by decide)
  have txsh : ∀ l : List Tx, SeqAt.shaped (.list (l.map eTx)) = true := fun l => shaped_of (n := 2) (lay_list fun d hd => by
    obtain ⟨t, _, rfl⟩ := List.mem_map.mp hd
    exact lay_tx t) (by decide)
  -- places, ways
  refine s_seq (s_setE (i := 7) (ee_lcY ws eTx (fun t => .tuple [.int (named N1 t : Nat), .int (named N4 t : Nat)]) (fun t => gR u (.dat (.int (W : Int))) (.dat (eNm N1)) (.dat (eNm N4)) (.dat (.int (r : Int))) (.dat (.list (ws.map eTx))) (.dat (eTx t)) .unk .unk .unk .unk .unk .unk .unk .unk .unk .unk) (ei_list (ee_var rfl)) (by omega) (fun t h => gt_name (by decide))
    (fun t h => ee_tup (ea_cons (ee_call (FD.pd ⟨t, N1, rfl, h10, by have := (hwt t h).1; omega, rfl⟩) (ea_cons (ee_var rfl) (ea_cons (ee_var rfl) ea_nil))) (ea_cons (ee_call (FD.pd ⟨t, N4, rfl, h40, by have := (hwt t h).1; omega, rfl⟩) (ea_cons (ee_var rfl) (ea_cons (ee_var rfl) ea_nil))) ea_nil)) (by show 2 ≤ 1000; decide))) A6 fun σ7 H7 e7 A7 => ?_)
  have U7 := U6.mono e7
  refine s_seq (s_setE (i := 8) (ee_lcY ws (fun t => .tuple [.int (named N1 t : Nat), .int (named N4 t : Nat)]) (fun t => .str (wy N1 N4 t)) (fun t => gR u (.dat (.int (W : Int))) (.dat (eNm N1)) (.dat (eNm N4)) (.dat (.int (r : Int))) (.dat (.list (ws.map eTx))) (.dat (.tuple [.int (named N1 t : Nat), .int (named N4 t : Nat)])) (.dat (.list (ws.map fun t => .tuple [.int (named N1 t : Nat), .int (named N4 t : Nat)]))) .unk .unk .unk .unk .unk .unk .unk .unk .unk) (ei_list (ee_var rfl)) (by omega) (fun t h => gt_name (by decide))
    (fun t h => ee_call (FD.pd ⟨named N1 t, named N4 t, rfl, rfl⟩) (ea_cons (ee_op (od_ix_t (j := 0) rfl) (ee_var rfl) (ee_int 0)) (ea_cons (ee_op (od_ix_t (j := 1) rfl) (ee_var rfl) (ee_int 1)) ea_nil)))) A7 fun σ8 H8 e8 A8 => ?_)
  have U8 := U7.mono e8
  -- due
  have h0 : (ws.map fun t => PyData.str (wy N1 N4 t))[0]? = some (.str (wy N1 N4 [])) := by rw [hrest]; rfl
  have hord : ordD W N1 N4 = if ws.all (fun t => decide (wy N1 N4 t = wy N1 N4 [])) then .str (wy N1 N4 []) else .none := by
    rw [ord_little hOk hK, ← hws, hrest, List.map_cons, ordW, ← List.map_cons (f := wy N1 N4), List.all_map]
    rfl
  have hways : ∀ {x9 x10 x11 x12 x13 x14 x15 x16 : Slv}, EE (tVar 8) (gR u (.dat (.int (W : Int))) (.dat (eNm N1)) (.dat (eNm N4)) (.dat (.int (r : Int))) (.dat (.list (ws.map eTx))) .unk (.dat (.list (ws.map fun t => .tuple [.int (named N1 t : Nat), .int (named N4 t : Nat)]))) (.dat (.list (ws.map fun t => .str (wy N1 N4 t)))) x9 x10 x11 x12 x13 x14 x15 x16) (.list (ws.map fun t => .str (wy N1 N4 t))) := ee_var rfl
  refine s_seq (s_setE (i := 9) (d := ordD W N1 N4) (ee_if (et_none (ee_lc ws (fun t => .str (wy N1 N4 t)) (fun t => !decide (wy N1 N4 t = wy N1 N4 [])) (fun t => .str (wy N1 N4 t)) (fun t => gR u (.dat (.int (W : Int))) (.dat (eNm N1)) (.dat (eNm N4)) (.dat (.int (r : Int))) (.dat (.list (ws.map eTx))) (.dat (.str (wy N1 N4 t))) (.dat (.list (ws.map fun t => .tuple [.int (named N1 t : Nat), .int (named N4 t : Nat)]))) (.dat (.list (ws.map fun t => .str (wy N1 N4 t)))) .unk .unk .unk .unk .unk .unk .unk .unk) (ei_list (ee_var rfl)) (by omega) (fun t h => gt_name (by decide))
    (fun t h => et_test (ee_op (od_neS _ _) (ee_var rfl) (ee_op (od_ix_l (j := 0) h0) (ee_var rfl) (ee_int 0)))) (fun t h _ => ee_var rfl)) (wsh (fun t => ⟨_, _, rfl⟩) _)) (fun h => ?_) (fun h => ?_)) A8 fun σ9 H9 e9 A9 => ?_)
  · rw [List.isEmpty_map, filt_none] at h
    rw [hord, if_pos h]
    exact ee_op (od_ix_l (j := 0) h0) (ee_var rfl) (ee_int 0)
  · rw [List.isEmpty_map, filt_none] at h
    rw [hord, if_neg (by rw [h]; exact Bool.false_ne_true)]
    exact ee_non
  have U9 := U8.mono e9
  -- apart
  dsimp only
  refine s_seq (s_setE (i := 10) (ee_lc ws (fun t => pairD (eTx t) (.str (wy N1 N4 t))) (fun t => !decide (named N1 t = named N4 t)) eTx (fun t => [.adr u, .dat (.int (W : Int)), .dat (eNm N1), .dat (eNm N4), .dat (.int (r : Int)), .dat (.list (ws.map eTx)), .dat (eTx t), .dat (.list (ws.map fun t => .tuple [.int (named N1 t : Nat), .int (named N4 t : Nat)])), .dat (.list (ws.map fun t => .str (wy N1 N4 t))), .dat (ordD W N1 N4), .unk, .unk, .unk, .unk, .unk, .unk, .unk, .dat (.str (wy N1 N4 t))])
    (by rw [← zip_map2]; exact ei_zipL (ea_cons (ee_var rfl) (ea_cons (ee_var rfl) ea_nil))) (by omega) (fun t h => gt_tup (gts_cons (gt_name (by decide)) (gts_cons (gt_name (by decide)) gts_nil)) rfl) (fun t h => by
      rw [← wd_same]
      exact et_test (ee_op (od_neS _ _) (ee_var rfl) (ee_str "same"))) (fun t h _ => ee_var rfl)) A9 fun σ10 H10 e10 A10 => ?_)
  have U10 := U9.mono e10
  -- got
  have hun : heardD (unlD W N1 N4) = heardD ((ws.filter fun t => !decide (named N1 t = named N4 t)).head?.map eTx) := by rw [unl_little hOk hK, ← hws]
  dsimp only
  refine s_seq (s_setE (i := 11) (ee_lst (ea_cons (ee_call (FD.pd ⟨W, eNm N1, eNm N4, N1, N4, rfl, hD1, hD4, hOk, rfl⟩) (ea_cons (ee_var rfl) (ea_cons (ee_var rfl) (ea_cons (ee_var rfl) ea_nil))))
    (ea_cons (ee_call (FD.pd ⟨W, listD 4 (eNm N1), listD 4 (eNm N4), N1, N4, rfl, hL1, hL4, hOk, rfl⟩) (ea_cons (ee_var rfl) (ea_cons (ee_call (FD.pd ⟨eNm N1, rfl, hD1.t, rfl⟩) (ea_cons (ee_var rfl) ea_nil)) (ea_cons (ee_call (FD.pd ⟨eNm N4, rfl, hD4.t, rfl⟩) (ea_cons (ee_var rfl) ea_nil)) ea_nil))))
    (ea_cons (ee_call (FD.pd ⟨W, eNm N1, eNm N4, N1, N4, rfl, hD1, hD4, hOk, rfl⟩) (ea_cons (ee_var rfl) (ea_cons (ee_var rfl) (ea_cons (ee_var rfl) ea_nil))))
    (ea_cons (ee_call (FD.pd (.inl ⟨W, eNm N1, eNm N4, N1, N4, rfl, hD1, hD4, hOk, rfl⟩)) (ea_cons (ee_int 0) (ea_cons (ee_var rfl) (ea_cons (ee_var rfl) (ea_cons (ee_var rfl) ea_nil))))) ea_nil)))) (by show 4 ≤ 1000; decide)) A10 fun σ11 H11 e11 A11 => ?_)
  have U11 := U10.mono e11
  have hflt : ∀ (p : Tx → Bool) t, (ws.filter p).head? = some t → t.length ≤ 1000 := fun p t h => by
    have := (hwt t ((List.mem_filter.mp (List.mem_of_head? h)).1)).1
    omega
  have hG : tree 5 (.list [ordD W N1 N4, ordD W N1 N4, .bool (oneB W N1 N4), heardD (unlD W N1 N4)]) := tree_list (by show 4 ≤ 1000; decide) fun d hd => by
    simp only [List.mem_cons, List.not_mem_nil, or_false] at hd
    rcases hd with rfl | rfl | rfl | rfl
    · exact tree_sc (ordW_sc _)
    · exact tree_sc (ordW_sc _)
    · trivial
    · rw [hun]; exact tree_heard (n := 2) (hflt _)
  have hpick : ∀ {Γ : List Slv} {i : Nat} {l : List Tx}, Γ[i]? = some (.dat (.list (l.map eTx))) → EE (tIf (tTest (tOp (rNeX K) (tVar i) (tLst tNil))) (tOp (rIx K) (tVar i) (tC (.int 0))) (tLst (tCons (tC (.str "can not")) (tCons (tC (.bl true)) tNil)))) Γ (heardD (l.head?.map eTx)) := fun {Γ i l} hi => by
    refine ee_if (et_some (ee_var hi) (txsh l)) (fun h => ?_) (fun h => ?_)
    · cases l with
      | nil => cases h
      | cons a l => exact ee_op (od_ix_l (j := 0) rfl) (ee_var hi) (ee_int 0)
    · cases l with
      | nil => exact ee_lst (ea_cons (ee_str "can not") (ea_cons (ee_bl true) ea_nil)) (by show 2 ≤ 1000; decide)
      | cons a l => cases h
  dsimp only
  refine s_seq (s_if (b := false) (et_is (et_not (et_B (ee_call (FD.pd ⟨_, rfl, hG, rfl⟩) (ea_cons (ee_var rfl) (ea_cons (ee_lst (ea_cons (ee_var rfl) (ea_cons (ee_var rfl) (ea_cons (ee_op (od_eq (d2 := .str "same") (ordW_sc _) rfl (ordW_scal _ _)) (ee_var (d := ordD W N1 N4) rfl) (ee_str _)) (ea_cons (ee_sc (hpick (i := 10) rfl) hun.symm) ea_nil)))) (by show 4 ≤ 1000; decide)) ea_nil))))) rfl) A11 (fun h => nomatch h) (fun _ H12 e12 A12 => s_next ?_))
  have U12 := U11.mono e12
  dsimp only
  have U12' : Urn H12 u (m + 34) := U12.more (by omega)
  have hwv : (ws.map fun t => PyData.str (wy N1 N4 t)).map vOf = (ws.map (wy N1 N4)).map V.str := by rw [List.map_map, List.map_map]; rfl
  have hwsc : (ws.map fun t => PyData.str (wy N1 N4 t)).all isSc = true := by
    rw [List.all_map, List.all_eq_true]
    intro t _
    rfl
  -- three long texts
  refine s_seq (s_forO (ei_rng1 (n := 3) (ea_cons (ee_int 3) ea_nil) (by decide) (by decide)) A12 (fun i Γ' H' => (∃ x12 x13, Γ' = [.adr u, .dat (.int (W : Int)), .dat (eNm N1), .dat (eNm N4), .dat (.int (r : Int)), .dat (.list (ws.map eTx)), .unk, .dat (.list (ws.map fun t => .tuple [.int (named N1 t : Nat), .int (named N4 t : Nat)])), .dat (.list (ws.map fun t => .str (wy N1 N4 t))), .dat (ordD W N1 N4), .dat (.list ((ws.filter fun t => !decide (named N1 t = named N4 t)).map eTx)), .dat (.list [ordD W N1 N4, ordD W N1 N4, .bool (oneB W N1 N4), heardD (unlD W N1 N4)]), x12, x13, .unk, .unk, .unk, .unk]) ∧ Urn H' u (m + 34 + 13 * i)) (fun i Γ' H1 H2 e ⟨h1, h2⟩ => ⟨h1, h2.mono e⟩) ⟨⟨_, _, rfl⟩, U12'⟩ ?_ ?_)
  · rintro i d Γ' Bs' σa Ha hd ⟨⟨x12, x13, rfl⟩, Ua⟩ hB hF Aa xv hxv
    have hi : i < 3 := (List.getElem?_eq_some_iff.mp hd).1
    refine g_at (vs := [12]) (gt_name (by decide)) Aa hxv fun σb Ab => ?_
    refine s_seq (s_setU (i := 13) (kk := (0 + (0 + 0)) + 13) (eu_call (Pre := Pre_text) (Post := Post_text) (i := 0) rfl (eua_cons (eu_of (ee_var rfl)) (eua_cons (eu_of (ee_int ((12 : Nat) : Int))) eua_nil)) (fun ds ⟨d, es, e1, e2, d3, es2, e3, e4, e5⟩ => ⟨W, 12, by rw [e1, e2, e3, e4, e5], by omega, hW3, by omega⟩)) Ab hu (hF u hu hf) Ua (by omega) fun d σc Hc ⟨ds, ⟨d1, es, q1, q2, d3, es2, q3, q4, q5⟩, W', n, t, h1, hd, ht, htl⟩ Ac Uc => ?_)
    subst q1 q2 q3 q4 q5 hd
    simp only [List.cons.injEq, PyData.int.injEq, and_true] at h1
    have hW' : W' = W := by omega
    subst hW'
    dsimp only
    refine s_if (b := false) (et_is (et_test (ee_op (od_inL (neg := true) rfl hwsc) (ee_call (FD.pd ⟨named N1 t, named N4 t, rfl, rfl⟩) (ea_cons (ee_call (FD.pd ⟨t, N1, rfl, h10, by omega, rfl⟩) (ea_cons (ee_var rfl) (ea_cons (ee_var rfl) ea_nil))) (ea_cons (ee_call (FD.pd ⟨t, N4, rfl, h40, by omega, rfl⟩) (ea_cons (ee_var rfl) (ea_cons (ee_var rfl) ea_nil))) ea_nil))) (ee_var rfl))) ?_) Ac (fun h => nomatch h) (fun _ Hd ed Ad => s_next ⟨_, ⟨⟨_, _, rfl⟩, ?_⟩, Ad⟩)
    · rw [if_pos rfl, hwv]
      show (!inV (.str (wy N1 N4 t)) _) = false
      rw [inV_strs, hws, decide_eq_true (ways_little hK ht)]
      rfl
    · exact (Uc.mono ed).more (by omega)
  rintro Γ' σ13 H13 ⟨⟨x12, x13, rfl⟩, U13⟩ A13
  have U13' : Urn H13 u (m + 73) := U13.more (by show m + 34 + 13 * 3 ≤ _; omega)
  dsimp only
  -- there, kinds
  refine s_seq (s_setE (i := 14) (d := .list ((ws.map fun t => stand t (named N1 t)).map eStand)) (ee_sc (ee_lcY ws (fun t => pairD (eTx t) (.tuple [.int (named N1 t : Nat), .int (named N4 t : Nat)])) (fun t => eStand (stand t (named N1 t))) (fun t => [.adr u, .dat (.int (W : Int)), .dat (eNm N1), .dat (eNm N4), .dat (.int (r : Int)), .dat (.list (ws.map eTx)), .dat (eTx t), .dat (.list (ws.map fun t => .tuple [.int (named N1 t : Nat), .int (named N4 t : Nat)])), .dat (.list (ws.map fun t => .str (wy N1 N4 t))), .dat (ordD W N1 N4), .dat (.list ((ws.filter fun t => !decide (named N1 t = named N4 t)).map eTx)), .dat (.list [ordD W N1 N4, ordD W N1 N4, .bool (oneB W N1 N4), heardD (unlD W N1 N4)]), x12, x13, .unk, .unk, .unk, .dat (.tuple [.int (named N1 t : Nat), .int (named N4 t : Nat)])])
    (by rw [← zip_map2]; exact ei_zipL (ea_cons (ee_var rfl) (ea_cons (ee_var rfl) ea_nil))) (by omega) (fun t h => gt_tup (gts_cons (gt_name (by decide)) (gts_cons (gt_name (by decide)) gts_nil)) rfl) (fun t h => ee_call (FD.pd ⟨t, named N1 t, rfl, named_le N1 t, rfl⟩) (ea_cons (ee_var rfl) (ea_cons (ee_op (od_ix_t (j := 0) rfl) (ee_var rfl) (ee_int 0)) ea_nil)))) (by rw [List.map_map]; rfl)) A13 fun σ14 H14 e14 A14 => ?_)
  have U14 := U13'.mono e14
  have hkn : (kindsOf W).length ≤ 10 := by unfold kindsOf; rw [List.length_append, List.length_map, List.length_range']; show W + 2 ≤ 10; omega
  have hkl : EE (tOp (rAddX K) (tLstRg (tRg2 (tC (.int 1)) (tOp (rAddX K) (tVar 1) (tC (.int 1))))) (tLst (tCons (tC (.str "back")) (tCons (tC (.str "front")) tNil)))) [.adr u, .dat (.int (W : Int)), .dat (eNm N1), .dat (eNm N4), .dat (.int (r : Int)), .dat (.list (ws.map eTx)), .unk, .dat (.list (ws.map fun t => .tuple [.int (named N1 t : Nat), .int (named N4 t : Nat)])), .dat (.list (ws.map fun t => .str (wy N1 N4 t))), .dat (ordD W N1 N4), .dat (.list ((ws.filter fun t => !decide (named N1 t = named N4 t)).map eTx)), .dat (.list [ordD W N1 N4, ordD W N1 N4, .bool (oneB W N1 N4), heardD (unlD W N1 N4)]), x12, x13, .dat (.list ((ws.map fun t => stand t (named N1 t)).map eStand)), .unk, .unk, .unk] (.list ((kindsOf W).map eStand)) := ee_sc (ee_op (od_addL (by rw [rgD_len]; show _ + 2 ≤ _; omega)) (ee_range (ee_int 1) (ee_op (od_addI (K := K) _ _) (ee_var (i := 1) rfl) (ee_int 1)) (by omega) (by omega)) (ee_lst (ea_cons (ee_str "back") (ea_cons (ee_str "front") ea_nil)) (by show 2 ≤ 1000; decide))) (by rw [← kinds_data, show ((W : Int) + 1 - 1).toNat = W by omega])
  dsimp only
  refine s_seq (s_setE (i := 15) (ee_lc (kindsOf W) eStand (fun s => memS s (ws.map fun t => stand t (named N1 t))) eStand (fun s => [.adr u, .dat (.int (W : Int)), .dat (eNm N1), .dat (eNm N4), .dat (.int (r : Int)), .dat (.list (ws.map eTx)), .dat (eStand s), .dat (.list (ws.map fun t => .tuple [.int (named N1 t : Nat), .int (named N4 t : Nat)])), .dat (.list (ws.map fun t => .str (wy N1 N4 t))), .dat (ordD W N1 N4), .dat (.list ((ws.filter fun t => !decide (named N1 t = named N4 t)).map eTx)), .dat (.list [ordD W N1 N4, ordD W N1 N4, .bool (oneB W N1 N4), heardD (unlD W N1 N4)]), x12, x13, .dat (.list ((ws.map fun t => stand t (named N1 t)).map eStand)), .unk, .unk, .unk]) (ei_list hkl) (by omega) (fun s h => gt_name (by decide)) (fun s h => by
      rw [← inV_stand]
      exact et_test (ee_op (od_inL (neg := false) (eStand_sc s) (stands_sc _)) (ee_var rfl) (ee_var rfl))) (fun s h _ => ee_var rfl)) A14 fun σ15 H15 e15 A15 => ?_)
  have U15 := U14.mono e15
  -- letters_there
  have hth : thereD W N1 = .tuple (((kindsOf W).filter fun s => memS s (ws.map fun t => stand t (named N1 t))).map eStand) := by rw [there_little hOk1 hK1, ← hws]
  have hG2 : tree 5 (.list [thereD W N1, thereD W N1]) := tree_list (by show 2 ≤ 1000; decide) fun d hd => by
    have e : d = thereD W N1 := by simpa using hd
    rw [e, hth]
    exact tree_stands (n := 2) (Nat.le_trans (List.length_filter_le _ _) (by omega))
  dsimp only
  refine s_seq (s_if (b := false) (et_is (et_not (et_B (ee_call (FD.pd ⟨.list [thereD W N1, thereD W N1], rfl, hG2, rfl⟩) (ea_cons (ee_lst (ea_cons (ee_call (FD.pd ⟨W, eNm N1, N1, rfl, hD1, hOk1, rfl⟩) (ea_cons (ee_var rfl) (ea_cons (ee_var rfl) ea_nil))) (ea_cons (ee_call (FD.pd ⟨W, listD 4 (eNm N1), N1, rfl, hL1, hOk1, rfl⟩) (ea_cons (ee_var rfl) (ea_cons (ee_call (FD.pd ⟨eNm N1, rfl, hD1.t, rfl⟩) (ea_cons (ee_var rfl) ea_nil)) ea_nil))) ea_nil)) (by show 2 ≤ 1000; decide))
    (ea_cons (ee_sc (ee_op (od_rep (n := 2) (by show 1 * 2 ≤ 1000000; decide) (by decide)) (ee_lst (ea_cons (ee_sc (ee_cb cd_tupL (ea_cons (ee_var (i := 15) rfl) ea_nil)) hth.symm) ea_nil) (by show 1 ≤ 1000; decide)) (ee_int _)) rfl) ea_nil))))) rfl) A15 (fun h => nomatch h) (fun _ H16 e16 A16 => s_next ?_))
  have U16 := U15.mono e16
  dsimp only
  -- two wishes
  refine s_seq (s_forU (kk := (0 + 1) + (((0 + 0) + 1) + 0)) (OkL := fun d => ∃ s1 s2 : Sum Int Bool, d = .list [eStand s1, eStand s2]) (eu_is (eu_lst (eua_cons (eu_op (Ok := fun d => ∃ s : Sum Int Bool, d = eStand s) (eu_of (ee_int 1)) (eu_take (n := W) (i := 0) rfl (ee_var rfl) (by omega) (by omega)) fun d1 d2 e1 ⟨r, e2, e3⟩ => ⟨.int (1 + (r : Int)), by rw [e1, e2]; exact od_addI _ _, .inl (1 + (r : Int)), rfl⟩)
      (eua_cons (eu_call (Pre := Pre_of) (Post := Post_of) (i := 0) rfl (eua_cons (eu_of (ee_lst (ea_cons (ee_str "back") (ea_cons (ee_str "front") ea_nil)) (by show 2 ≤ 1000; decide))) eua_nil) fun ds ⟨d, es, e1, e2, e3⟩ => ⟨[.str "back", .str "front"], by rw [e1, e2, e3], by show 1 ≤ 2; decide, by show 2 ≤ 1000; decide⟩) eua_nil)) fun ds ⟨d, es, e1, _, d2, es2, e2, _, e3⟩ => by rw [e1, e2, e3]; show 2 ≤ 1000; decide)
      fun d ⟨ds, e0, d1, es, e1, ⟨s1, e4⟩, d2, es2, e2, ⟨l1, ⟨dd, es1, q1, q2, q3⟩, xs, q4, q5⟩, e3⟩ => by
        subst e0 e1 e2 e3 e4 q1 q2 q3
        rw [List.cons.injEq, PyData.list.injEq] at q4
        rw [← q4.1] at q5
        rcases List.mem_cons.mp q5 with h | h
        · exact ⟨s1, .inr true, by rw [h]; rfl⟩
        · exact ⟨s1, .inr false, by rw [List.mem_singleton.mp h]; rfl⟩) A16 hu hf U16 (by omega) fun d v H17 ⟨s1, s2, hd⟩ A17 U17 hv => ?_)
  subst hd
  have hflt2 : ∀ (s : Sum Int Bool), heardD (withD W N1 s) = heardD ((ws.filter fun t => decide (stand t (named N1 t) = s)).head?.map eTx) := fun s => by rw [with_little s hOk1 hK1, ← hws]
  refine s_forH (eih_list (eh_val hv)) A17 (fun i Γ' H' => (∃ x6 x16, Γ' = [.adr u, .dat (.int (W : Int)), .dat (eNm N1), .dat (eNm N4), .dat (.int (r : Int)), .dat (.list (ws.map eTx)), x6, .dat (.list (ws.map fun t => .tuple [.int (named N1 t : Nat), .int (named N4 t : Nat)])), .dat (.list (ws.map fun t => .str (wy N1 N4 t))), .dat (ordD W N1 N4), .dat (.list ((ws.filter fun t => !decide (named N1 t = named N4 t)).map eTx)), .dat (.list [ordD W N1 N4, ordD W N1 N4, .bool (oneB W N1 N4), heardD (unlD W N1 N4)]), x12, x13, .dat (.list ((ws.map fun t => stand t (named N1 t)).map eStand)), .dat (.list (((kindsOf W).filter fun s => memS s (ws.map fun t => stand t (named N1 t))).map eStand)), x16, .unk]) ∧ Urn H' u (m + 75)) (fun i Γ' H1 H2 e ⟨h1, h2⟩ => ⟨h1, h2.mono e⟩) ⟨⟨_, _, rfl⟩, U17.more (by omega)⟩ ?_ ?_
  · rintro i d Γ' Bs' σa Ha hd ⟨⟨x6, x16, rfl⟩, Ua⟩ hB hF Aa xv hxv
    obtain ⟨s, rfl⟩ : ∃ s : Sum Int Bool, d = eStand s := by
      have hm := List.mem_of_getElem? hd
      rcases List.mem_cons.mp hm with e | hm
      · exact ⟨s1, e⟩
      · exact ⟨s2, List.mem_singleton.mp hm⟩
    refine g_at (vs := [6]) (gt_name (by decide)) Aa hxv fun σb Ab => ?_
    dsimp only
    refine s_seq (s_setE (i := 16) (ee_lc ws (fun t => pairD (eTx t) (eStand (stand t (named N1 t)))) (fun t => decide (stand t (named N1 t) = s)) eTx (fun t => [.adr u, .dat (.int (W : Int)), .dat (eNm N1), .dat (eNm N4), .dat (.int (r : Int)), .dat (.list (ws.map eTx)), .dat (eStand s), .dat (.list (ws.map fun t => .tuple [.int (named N1 t : Nat), .int (named N4 t : Nat)])), .dat (.list (ws.map fun t => .str (wy N1 N4 t))), .dat (ordD W N1 N4), .dat (.list ((ws.filter fun t => !decide (named N1 t = named N4 t)).map eTx)), .dat (.list [ordD W N1 N4, ordD W N1 N4, .bool (oneB W N1 N4), heardD (unlD W N1 N4)]), x12, .dat (eTx t), .dat (.list ((ws.map fun t => stand t (named N1 t)).map eStand)), .dat (.list (((kindsOf W).filter fun s => memS s (ws.map fun t => stand t (named N1 t))).map eStand)), x16, .dat (eStand (stand t (named N1 t)))])
      (by
        have hz := ei_zipL (K := K) (Γ := [.adr u, .dat (.int (W : Int)), .dat (eNm N1), .dat (eNm N4), .dat (.int (r : Int)), .dat (.list (ws.map eTx)), .dat (eStand s), .dat (.list (ws.map fun t => .tuple [.int (named N1 t : Nat), .int (named N4 t : Nat)])), .dat (.list (ws.map fun t => .str (wy N1 N4 t))), .dat (ordD W N1 N4), .dat (.list ((ws.filter fun t => !decide (named N1 t = named N4 t)).map eTx)), .dat (.list [ordD W N1 N4, ordD W N1 N4, .bool (oneB W N1 N4), heardD (unlD W N1 N4)]), x12, x13, .dat (.list ((ws.map fun t => stand t (named N1 t)).map eStand)), .dat (.list (((kindsOf W).filter fun s => memS s (ws.map fun t => stand t (named N1 t))).map eStand)), x16, .unk]) (ta := tCons (tVar 5) (tCons (tVar 14) tNil)) (ea_cons (ee_var rfl) (ea_cons (ee_var rfl) ea_nil))
        have e : List.zipWith pairD (ws.map eTx) ((ws.map fun t => stand t (named N1 t)).map eStand) = ws.map fun t => pairD (eTx t) (eStand (stand t (named N1 t))) := by rw [List.map_map, zip_map2]; rfl
        rw [e] at hz
        exact hz) (by omega) (fun t h => gt_tup (gts_cons (gt_name (by decide)) (gts_cons (gt_name (by decide)) gts_nil)) rfl) (fun t h => by
        rw [← eStand_eq]
        exact et_test (ee_op (od_eq (eStand_sc _) (eStand_sc _) (eStand_scal _ _)) (ee_var rfl) (ee_var rfl))) (fun t h _ => ee_var rfl)) Ab fun σc Hc ec Ac => ?_)
    have hG3 : tree 5 (heardD (withD W N1 s)) := by rw [hflt2]; exact tree_heard (n := 3) (hflt _)
    dsimp only
    exact s_if (b := false) (et_is (et_not (et_B (ee_call (FD.pd ⟨_, rfl, hG3, rfl⟩) (ea_cons (ee_call (FD.pd (.inr ⟨W, eNm N1, N1, s, rfl, hD1, hOk1, rfl⟩)) (ea_cons (ee_int 1) (ea_cons (ee_var rfl) (ea_cons (ee_var rfl) (ea_cons (ee_var rfl) ea_nil))))) (ea_cons (ee_sc (hpick (i := 16) rfl) (hflt2 s).symm) ea_nil))))) rfl) Ac (fun h => nomatch h) (fun _ Hd ed Ad => s_next ⟨_, ⟨⟨_, _, rfl⟩, (Ua.mono ec).mono ed⟩, Ad⟩)
  · rintro Γ' σ18 H18 ⟨⟨x6, x16, rfl⟩, U18⟩ A18
    dsimp only
    exact s_retE (ee_bl true) A18 U18 (by simp) fun v H19 e19 U19 h19 => k _ v H19 rfl e19 (U19.more (by omega)) h19
end
end Nx
set_option maxHeartbeats 16000000
/-! the law, and what the top has left -/
namespace Nx
open PySem PySem.Spec PyProof.Rows L2
section
variable {P : Program} {w : World} {K : PySem.W.Frag} {mg : Str → Option Value} {base : Heap}
def spLaw (K : PySem.W.Frag) : Sp := fun vs H Q _ => ∃ (a : Addr) (ns : List Int), vs = [.ref a] ∧ SqL K H a (ns.map V.int) ∧ ns.length ≤ 63 ∧ ∀ H', Q (.bl true) H'
theorem ok_law {f : Addr} {fd : FuncData} {f__law_front_right : Addr} {fd__law_front_right : FuncData} (C__law_front_right : Cl K mg "_law_front_right" f__law_front_right fd__law_front_right []) (G__law_front_right : FnOk P w K mg base CX0 26 f__law_front_right fd__law_front_right [] (FD R_front)) {f__law_right : Addr} {fd__law_right : FuncData} (C__law_right : Cl K mg "_law_right" f__law_right fd__law_right ["_law_urn"]) (G__law_right : FnOk P w K mg base CX0 26 f__law_right fd__law_right ["_law_urn"] (FU 200 (fun ds => ds = []) Post_right))
    {f__law_box : Addr} {fd__law_box : FuncData} (C__law_box : Cl K mg "_law_box" f__law_box fd__law_box ["_law_script", "_law_k"]) (G__law_box : FnOk P w K mg base CX0 1 f__law_box fd__law_box ["_law_script", "_law_k"] spBox) {f__law_cells : Addr} {fd__law_cells : FuncData} (C__law_cells : Cl K mg "_law_cells" f__law_cells fd__law_cells ["_law_script", "_law_roof_so"]) (G__law_cells : FnOk P w K mg base CX0 1 f__law_cells fd__law_cells ["_law_script", "_law_roof_so"] (spCells K)) (F : Fun K "law" "law" s_law f fd) : FnOk P w K mg base CX0 27 f fd ["_law_script"] (spLaw K) := by
  refine F.ok sc_law (fun vs H Q E h => ?_) (fun cdv A outer s H vs Q E hr h => ⟨_, (pss_cons (ps_if (pt_not (pt_val (pe_call0 G__law_front_right (hr.mono (by first | decide | exact Nat.le_refl _ | omega)) (by rfl) C__law_front_right.g C__law_front_right.k C__law_front_right.b .nil pass0))) (pss_one (ps_ret pe_bl)) pss_nil)
      (pss_one (ps_ret (pe_call G__law_right (hr.mono (by first | decide | exact Nat.le_refl _ | omega)) (by rfl) C__law_right.g C__law_right.k C__law_right.b .nil pass0 (pa_cons (pe_call G__law_box (hr.mono (by first | decide | exact Nat.le_refl _ | omega)) (by rfl) C__law_box.g C__law_box.k C__law_box.b .nil pass0 (pa_cons (pe_call G__law_cells (hr.mono (by first | decide | exact Nat.le_refl _ | omega)) (by rfl) C__law_cells.g C__law_cells.k C__law_cells.b .nil pass0 (pa_cons (pv 0) (pa_cons pe_int pa_nil))) (pa_cons pe_int pa_nil))) pa_nil))))), ?_⟩)
  · obtain ⟨a, ns, rfl, _⟩ := h
    rfl
  obtain ⟨a, ns, rfl, hs, hl, k⟩ := h
  have A0 : Ats [] [([a], H)] (L2.start ["_law_script"] (.ref a :: [])) H (initU ["_law_script"] a []) := ats_startU (fun _ h => by cases h) .nil
  refine s_seq (s_if (b := false) (et_is (et_not (et_B (ee_call (d := .bool true) (FD.pd ⟨rfl, rfl⟩) ea_nil))) rfl) A0 (fun h => nomatch h) (fun _ H1 e1 A1 => s_next ?_))
  dsimp only
  have hs1 := e1.seq hs
  refine ⟨_, A1.adr 0 a rfl, a, ns, rfl, hs1, hl, fun p n H2 e2 hp hp2 => ?_⟩
  refine ⟨p, n, rfl, hp2, fun q b c H3 e3 hq hq3 hc0 hc1 => ?_⟩
  refine ⟨[q], q, 0, [], [], rfl, List.mem_singleton.mpr rfl, fun x hx => ?_, ⟨b, c, 0, hq3, hc0, hc1, by decide, by decide⟩, by decide, .nil, rfl, fun d v H4 hd e4 U4 h4 => ?_⟩
  · rw [List.mem_singleton.mp hx, hq3]
    exact fun z => by cases z
  · have hd' : d = .bool true := hd
    subst hd'
    cases h4
    exact k H4
end
theorem all_mk {l : PySem.W.OpenLaw} {w : World} {K : PySem.W.Frag} {h : Heap} {mg : Str → Option Value} {fa C : Addr} (X : K.In h) (G : h.Ns mainGlobals mg) (hfa : mg "law" = some (.ref fa))
    {f_is_number : Addr}
    {od_is_number an_is_number : Option Addr} {sl_is_number : Array (Option Value)} {oc_is_number kV_is_number dc_is_number pm_is_number cd_is_number ct_is_number : Value}
    {f_tuple_of : Addr}
    {od_tuple_of an_tuple_of : Option Addr} {sl_tuple_of : Array (Option Value)} {oc_tuple_of kV_tuple_of dc_tuple_of pm_tuple_of cd_tuple_of ct_tuple_of : Value}
    {f_sure_place : Addr}
    {od_sure_place an_sure_place : Option Addr} {sl_sure_place : Array (Option Value)} {oc_sure_place kV_sure_place dc_sure_place pm_sure_place cd_sure_place ct_sure_place : Value}
    {f_stands_at : Addr}
    {od_stands_at an_stands_at : Option Addr} {sl_stands_at : Array (Option Value)} {oc_stands_at kV_stands_at dc_stands_at pm_stands_at cd_stands_at ct_stands_at : Value}
    {f_gone_on : Addr}
    {od_gone_on an_gone_on : Option Addr} {sl_gone_on : Array (Option Value)} {oc_gone_on kV_gone_on dc_gone_on pm_gone_on cd_gone_on ct_gone_on : Value}
    {f_begun : Addr}
    {od_begun an_begun : Option Addr} {sl_begun : Array (Option Value)} {oc_begun kV_begun dc_begun pm_begun cd_begun ct_begun : Value}
    {f_with_found : Addr}
    {od_with_found an_with_found : Option Addr} {sl_with_found : Array (Option Value)} {oc_with_found kV_with_found dc_with_found pm_with_found cd_with_found ct_with_found : Value}
    {f_with_last : Addr}
    {od_with_last an_with_last : Option Addr} {sl_with_last : Array (Option Value)} {oc_with_last kV_with_last dc_with_last pm_with_last cd_with_last ct_with_last : Value}
    {f_grown : Addr}
    {od_grown an_grown : Option Addr} {sl_grown : Array (Option Value)} {oc_grown kV_grown dc_grown pm_grown cd_grown ct_grown : Value}
    {f_ended : Addr}
    {od_ended an_ended : Option Addr} {sl_ended : Array (Option Value)} {oc_ended kV_ended dc_ended pm_ended cd_ended ct_ended : Value}
    {f_form_of : Addr}
    {od_form_of an_form_of : Option Addr} {sl_form_of : Array (Option Value)} {oc_form_of kV_form_of dc_form_of pm_form_of cd_form_of ct_form_of : Value}
    {f_told_by_texts : Addr}
    {od_told_by_texts an_told_by_texts : Option Addr} {sl_told_by_texts : Array (Option Value)} {oc_told_by_texts kV_told_by_texts dc_told_by_texts pm_told_by_texts cd_told_by_texts ct_told_by_texts : Value}
    {f_order_of : Addr}
    {od_order_of an_order_of : Option Addr} {sl_order_of : Array (Option Value)} {oc_order_of kV_order_of dc_order_of pm_order_of cd_order_of ct_order_of : Value}
    {f_are_one : Addr}
    {od_are_one an_are_one : Option Addr} {sl_are_one : Array (Option Value)} {oc_are_one kV_are_one dc_are_one pm_are_one cd_are_one ct_are_one : Value}
    {f_unlike_named : Addr}
    {od_unlike_named an_unlike_named : Option Addr} {sl_unlike_named : Array (Option Value)} {oc_unlike_named kV_unlike_named dc_unlike_named pm_unlike_named cd_unlike_named ct_unlike_named : Value}
    {f_letters_there : Addr}
    {od_letters_there an_letters_there : Option Addr} {sl_letters_there : Array (Option Value)} {oc_letters_there kV_letters_there dc_letters_there pm_letters_there cd_letters_there ct_letters_there : Value}
    {f_text_with : Addr}
    {od_text_with an_text_with : Option Addr} {sl_text_with : Array (Option Value)} {oc_text_with kV_text_with dc_text_with pm_text_with cd_text_with ct_text_with : Value}
    {f__law_box : Addr}
    {od__law_box an__law_box : Option Addr} {sl__law_box : Array (Option Value)} {oc__law_box kV__law_box dc__law_box pm__law_box cd__law_box ct__law_box : Value}
    {f__law_take : Addr}
    {od__law_take an__law_take : Option Addr} {sl__law_take : Array (Option Value)} {oc__law_take kV__law_take dc__law_take pm__law_take cd__law_take ct__law_take : Value}
    {f__law_cells : Addr}
    {od__law_cells an__law_cells : Option Addr} {sl__law_cells : Array (Option Value)} {oc__law_cells kV__law_cells dc__law_cells pm__law_cells cd__law_cells ct__law_cells : Value}
    {f__law_of : Addr}
    {od__law_of an__law_of : Option Addr} {sl__law_of : Array (Option Value)} {oc__law_of kV__law_of dc__law_of pm__law_of cd__law_of ct__law_of : Value}
    {f__law_pick : Addr}
    {od__law_pick an__law_pick : Option Addr} {sl__law_pick : Array (Option Value)} {oc__law_pick kV__law_pick dc__law_pick pm__law_pick cd__law_pick ct__law_pick : Value}
    {f__law_lists : Addr}
    {od__law_lists an__law_lists : Option Addr} {sl__law_lists : Array (Option Value)} {oc__law_lists kV__law_lists dc__law_lists pm__law_lists cd__law_lists ct__law_lists : Value}
    {f__law_same : Addr}
    {od__law_same an__law_same : Option Addr} {sl__law_same : Array (Option Value)} {oc__law_same kV__law_same dc__law_same pm__law_same cd__law_same ct__law_same : Value}
    {f__law_words : Addr}
    {od__law_words an__law_words : Option Addr} {sl__law_words : Array (Option Value)} {oc__law_words kV__law_words dc__law_words pm__law_words cd__law_words ct__law_words : Value}
    {f__law_text : Addr}
    {od__law_text an__law_text : Option Addr} {sl__law_text : Array (Option Value)} {oc__law_text kV__law_text dc__law_text pm__law_text cd__law_text ct__law_text : Value}
    {f__law_letters_of : Addr}
    {od__law_letters_of an__law_letters_of : Option Addr} {sl__law_letters_of : Array (Option Value)} {oc__law_letters_of kV__law_letters_of dc__law_letters_of pm__law_letters_of cd__law_letters_of ct__law_letters_of : Value}
    {f__law_found : Addr}
    {od__law_found an__law_found : Option Addr} {sl__law_found : Array (Option Value)} {oc__law_found kV__law_found dc__law_found pm__law_found cd__law_found ct__law_found : Value}
    {f__law_named : Addr}
    {od__law_named an__law_named : Option Addr} {sl__law_named : Array (Option Value)} {oc__law_named kV__law_named dc__law_named pm__law_named cd__law_named ct__law_named : Value}
    {f__law_naming : Addr}
    {od__law_naming an__law_naming : Option Addr} {sl__law_naming : Array (Option Value)} {oc__law_naming kV__law_naming dc__law_naming pm__law_naming cd__law_naming ct__law_naming : Value}
    {f__law_at : Addr}
    {od__law_at an__law_at : Option Addr} {sl__law_at : Array (Option Value)} {oc__law_at kV__law_at dc__law_at pm__law_at cd__law_at ct__law_at : Value}
    {f__law_front_right : Addr}
    {od__law_front_right an__law_front_right : Option Addr} {sl__law_front_right : Array (Option Value)} {oc__law_front_right kV__law_front_right dc__law_front_right pm__law_front_right cd__law_front_right ct__law_front_right : Value}
    {f__law_heard : Addr}
    {od__law_heard an__law_heard : Option Addr} {sl__law_heard : Array (Option Value)} {oc__law_heard kV__law_heard dc__law_heard pm__law_heard cd__law_heard ct__law_heard : Value}
    {f__law_word : Addr}
    {od__law_word an__law_word : Option Addr} {sl__law_word : Array (Option Value)} {oc__law_word kV__law_word dc__law_word pm__law_word cd__law_word ct__law_word : Value}
    {f__law_right : Addr}
    {od__law_right an__law_right : Option Addr} {sl__law_right : Array (Option Value)} {oc__law_right kV__law_right dc__law_right pm__law_right cd__law_right ct__law_right : Value}
    {f_law : Addr}
    {od_law an_law : Option Addr} {sl_law : Array (Option Value)} {oc_law kV_law dc_law pm_law cd_law ct_law : Value}
    (a_is_number : PySem.W.nsIn K mainGlobals "is_number" = some (some (.ref f_is_number))) (l_is_number : K.lookup f_is_number = some ⟨oc_is_number, od_is_number, .func (PySem.W.fnOf "is_number" "is_number" (defArgs s_is_number) (defBody s_is_number) (defScope s_is_number) .none kV_is_number dc_is_number pm_is_number an_is_number cd_is_number ct_is_number), sl_is_number⟩) (c_is_number : PySem.W.codeIn K cd_is_number "is_number" = true) (k_is_number : PySem.W.keepIn K (.ref f_is_number) = true)
    (a_tuple_of : PySem.W.nsIn K mainGlobals "tuple_of" = some (some (.ref f_tuple_of))) (l_tuple_of : K.lookup f_tuple_of = some ⟨oc_tuple_of, od_tuple_of, .func (PySem.W.fnOf "tuple_of" "tuple_of" (defArgs s_tuple_of) (defBody s_tuple_of) (defScope s_tuple_of) .none kV_tuple_of dc_tuple_of pm_tuple_of an_tuple_of cd_tuple_of ct_tuple_of), sl_tuple_of⟩) (c_tuple_of : PySem.W.codeIn K cd_tuple_of "tuple_of" = true) (k_tuple_of : PySem.W.keepIn K (.ref f_tuple_of) = true)
    (a_sure_place : PySem.W.nsIn K mainGlobals "sure_place" = some (some (.ref f_sure_place))) (l_sure_place : K.lookup f_sure_place = some ⟨oc_sure_place, od_sure_place, .func (PySem.W.fnOf "sure_place" "sure_place" (defArgs s_sure_place) (defBody s_sure_place) (defScope s_sure_place) .none kV_sure_place dc_sure_place pm_sure_place an_sure_place cd_sure_place ct_sure_place), sl_sure_place⟩) (c_sure_place : PySem.W.codeIn K cd_sure_place "sure_place" = true) (k_sure_place : PySem.W.keepIn K (.ref f_sure_place) = true)
    (a_stands_at : PySem.W.nsIn K mainGlobals "stands_at" = some (some (.ref f_stands_at))) (l_stands_at : K.lookup f_stands_at = some ⟨oc_stands_at, od_stands_at, .func (PySem.W.fnOf "stands_at" "stands_at" (defArgs s_stands_at) (defBody s_stands_at) (defScope s_stands_at) .none kV_stands_at dc_stands_at pm_stands_at an_stands_at cd_stands_at ct_stands_at), sl_stands_at⟩) (c_stands_at : PySem.W.codeIn K cd_stands_at "stands_at" = true) (k_stands_at : PySem.W.keepIn K (.ref f_stands_at) = true)
    (a_gone_on : PySem.W.nsIn K mainGlobals "gone_on" = some (some (.ref f_gone_on))) (l_gone_on : K.lookup f_gone_on = some ⟨oc_gone_on, od_gone_on, .func (PySem.W.fnOf "gone_on" "gone_on" (defArgs s_gone_on) (defBody s_gone_on) (defScope s_gone_on) .none kV_gone_on dc_gone_on pm_gone_on an_gone_on cd_gone_on ct_gone_on), sl_gone_on⟩) (c_gone_on : PySem.W.codeIn K cd_gone_on "gone_on" = true) (k_gone_on : PySem.W.keepIn K (.ref f_gone_on) = true)
    (a_begun : PySem.W.nsIn K mainGlobals "begun" = some (some (.ref f_begun))) (l_begun : K.lookup f_begun = some ⟨oc_begun, od_begun, .func (PySem.W.fnOf "begun" "begun" (defArgs s_begun) (defBody s_begun) (defScope s_begun) .none kV_begun dc_begun pm_begun an_begun cd_begun ct_begun), sl_begun⟩) (c_begun : PySem.W.codeIn K cd_begun "begun" = true) (k_begun : PySem.W.keepIn K (.ref f_begun) = true)
    (a_with_found : PySem.W.nsIn K mainGlobals "with_found" = some (some (.ref f_with_found))) (l_with_found : K.lookup f_with_found = some ⟨oc_with_found, od_with_found, .func (PySem.W.fnOf "with_found" "with_found" (defArgs s_with_found) (defBody s_with_found) (defScope s_with_found) .none kV_with_found dc_with_found pm_with_found an_with_found cd_with_found ct_with_found), sl_with_found⟩) (c_with_found : PySem.W.codeIn K cd_with_found "with_found" = true) (k_with_found : PySem.W.keepIn K (.ref f_with_found) = true)
    (a_with_last : PySem.W.nsIn K mainGlobals "with_last" = some (some (.ref f_with_last))) (l_with_last : K.lookup f_with_last = some ⟨oc_with_last, od_with_last, .func (PySem.W.fnOf "with_last" "with_last" (defArgs s_with_last) (defBody s_with_last) (defScope s_with_last) .none kV_with_last dc_with_last pm_with_last an_with_last cd_with_last ct_with_last), sl_with_last⟩) (c_with_last : PySem.W.codeIn K cd_with_last "with_last" = true) (k_with_last : PySem.W.keepIn K (.ref f_with_last) = true)
    (a_grown : PySem.W.nsIn K mainGlobals "grown" = some (some (.ref f_grown))) (l_grown : K.lookup f_grown = some ⟨oc_grown, od_grown, .func (PySem.W.fnOf "grown" "grown" (defArgs s_grown) (defBody s_grown) (defScope s_grown) .none kV_grown dc_grown pm_grown an_grown cd_grown ct_grown), sl_grown⟩) (c_grown : PySem.W.codeIn K cd_grown "grown" = true) (k_grown : PySem.W.keepIn K (.ref f_grown) = true)
    (a_ended : PySem.W.nsIn K mainGlobals "ended" = some (some (.ref f_ended))) (l_ended : K.lookup f_ended = some ⟨oc_ended, od_ended, .func (PySem.W.fnOf "ended" "ended" (defArgs s_ended) (defBody s_ended) (defScope s_ended) .none kV_ended dc_ended pm_ended an_ended cd_ended ct_ended), sl_ended⟩) (c_ended : PySem.W.codeIn K cd_ended "ended" = true) (k_ended : PySem.W.keepIn K (.ref f_ended) = true)
    (a_form_of : PySem.W.nsIn K mainGlobals "form_of" = some (some (.ref f_form_of))) (l_form_of : K.lookup f_form_of = some ⟨oc_form_of, od_form_of, .func (PySem.W.fnOf "form_of" "form_of" (defArgs s_form_of) (defBody s_form_of) (defScope s_form_of) .none kV_form_of dc_form_of pm_form_of an_form_of cd_form_of ct_form_of), sl_form_of⟩) (c_form_of : PySem.W.codeIn K cd_form_of "form_of" = true) (k_form_of : PySem.W.keepIn K (.ref f_form_of) = true)
    (a_told_by_texts : PySem.W.nsIn K mainGlobals "told_by_texts" = some (some (.ref f_told_by_texts))) (l_told_by_texts : K.lookup f_told_by_texts = some ⟨oc_told_by_texts, od_told_by_texts, .func (PySem.W.fnOf "told_by_texts" "told_by_texts" (defArgs s_told_by_texts) (defBody s_told_by_texts) (defScope s_told_by_texts) .none kV_told_by_texts dc_told_by_texts pm_told_by_texts an_told_by_texts cd_told_by_texts ct_told_by_texts), sl_told_by_texts⟩) (c_told_by_texts : PySem.W.codeIn K cd_told_by_texts "told_by_texts" = true) (k_told_by_texts : PySem.W.keepIn K (.ref f_told_by_texts) = true)
    (a_order_of : PySem.W.nsIn K mainGlobals "order_of" = some (some (.ref f_order_of))) (l_order_of : K.lookup f_order_of = some ⟨oc_order_of, od_order_of, .func (PySem.W.fnOf "order_of" "order_of" (defArgs s_order_of) (defBody s_order_of) (defScope s_order_of) .none kV_order_of dc_order_of pm_order_of an_order_of cd_order_of ct_order_of), sl_order_of⟩) (c_order_of : PySem.W.codeIn K cd_order_of "order_of" = true) (k_order_of : PySem.W.keepIn K (.ref f_order_of) = true)
    (a_are_one : PySem.W.nsIn K mainGlobals "are_one" = some (some (.ref f_are_one))) (l_are_one : K.lookup f_are_one = some ⟨oc_are_one, od_are_one, .func (PySem.W.fnOf "are_one" "are_one" (defArgs s_are_one) (defBody s_are_one) (defScope s_are_one) .none kV_are_one dc_are_one pm_are_one an_are_one cd_are_one ct_are_one), sl_are_one⟩) (c_are_one : PySem.W.codeIn K cd_are_one "are_one" = true) (k_are_one : PySem.W.keepIn K (.ref f_are_one) = true)
    (a_unlike_named : PySem.W.nsIn K mainGlobals "unlike_named" = some (some (.ref f_unlike_named))) (l_unlike_named : K.lookup f_unlike_named = some ⟨oc_unlike_named, od_unlike_named, .func (PySem.W.fnOf "unlike_named" "unlike_named" (defArgs s_unlike_named) (defBody s_unlike_named) (defScope s_unlike_named) .none kV_unlike_named dc_unlike_named pm_unlike_named an_unlike_named cd_unlike_named ct_unlike_named), sl_unlike_named⟩) (c_unlike_named : PySem.W.codeIn K cd_unlike_named "unlike_named" = true) (k_unlike_named : PySem.W.keepIn K (.ref f_unlike_named) = true)
    (a_letters_there : PySem.W.nsIn K mainGlobals "letters_there" = some (some (.ref f_letters_there))) (l_letters_there : K.lookup f_letters_there = some ⟨oc_letters_there, od_letters_there, .func (PySem.W.fnOf "letters_there" "letters_there" (defArgs s_letters_there) (defBody s_letters_there) (defScope s_letters_there) .none kV_letters_there dc_letters_there pm_letters_there an_letters_there cd_letters_there ct_letters_there), sl_letters_there⟩) (c_letters_there : PySem.W.codeIn K cd_letters_there "letters_there" = true) (k_letters_there : PySem.W.keepIn K (.ref f_letters_there) = true)
    (a_text_with : PySem.W.nsIn K mainGlobals "text_with" = some (some (.ref f_text_with))) (l_text_with : K.lookup f_text_with = some ⟨oc_text_with, od_text_with, .func (PySem.W.fnOf "text_with" "text_with" (defArgs s_text_with) (defBody s_text_with) (defScope s_text_with) .none kV_text_with dc_text_with pm_text_with an_text_with cd_text_with ct_text_with), sl_text_with⟩) (c_text_with : PySem.W.codeIn K cd_text_with "text_with" = true) (k_text_with : PySem.W.keepIn K (.ref f_text_with) = true)
    (a__law_box : PySem.W.nsIn K mainGlobals "_law_box" = some (some (.ref f__law_box))) (l__law_box : K.lookup f__law_box = some ⟨oc__law_box, od__law_box, .func (PySem.W.fnOf "_law_box" "_law_box" (defArgs s__law_box) (defBody s__law_box) (defScope s__law_box) .none kV__law_box dc__law_box pm__law_box an__law_box cd__law_box ct__law_box), sl__law_box⟩) (c__law_box : PySem.W.codeIn K cd__law_box "_law_box" = true) (k__law_box : PySem.W.keepIn K (.ref f__law_box) = true)
    (a__law_take : PySem.W.nsIn K mainGlobals "_law_take" = some (some (.ref f__law_take))) (l__law_take : K.lookup f__law_take = some ⟨oc__law_take, od__law_take, .func (PySem.W.fnOf "_law_take" "_law_take" (defArgs s__law_take) (defBody s__law_take) (defScope s__law_take) .none kV__law_take dc__law_take pm__law_take an__law_take cd__law_take ct__law_take), sl__law_take⟩) (c__law_take : PySem.W.codeIn K cd__law_take "_law_take" = true) (k__law_take : PySem.W.keepIn K (.ref f__law_take) = true)
    (a__law_cells : PySem.W.nsIn K mainGlobals "_law_cells" = some (some (.ref f__law_cells))) (l__law_cells : K.lookup f__law_cells = some ⟨oc__law_cells, od__law_cells, .func (PySem.W.fnOf "_law_cells" "_law_cells" (defArgs s__law_cells) (defBody s__law_cells) (defScope s__law_cells) .none kV__law_cells dc__law_cells pm__law_cells an__law_cells cd__law_cells ct__law_cells), sl__law_cells⟩) (c__law_cells : PySem.W.codeIn K cd__law_cells "_law_cells" = true) (k__law_cells : PySem.W.keepIn K (.ref f__law_cells) = true)
    (a__law_of : PySem.W.nsIn K mainGlobals "_law_of" = some (some (.ref f__law_of))) (l__law_of : K.lookup f__law_of = some ⟨oc__law_of, od__law_of, .func (PySem.W.fnOf "_law_of" "_law_of" (defArgs s__law_of) (defBody s__law_of) (defScope s__law_of) .none kV__law_of dc__law_of pm__law_of an__law_of cd__law_of ct__law_of), sl__law_of⟩) (c__law_of : PySem.W.codeIn K cd__law_of "_law_of" = true) (k__law_of : PySem.W.keepIn K (.ref f__law_of) = true)
    (a__law_pick : PySem.W.nsIn K mainGlobals "_law_pick" = some (some (.ref f__law_pick))) (l__law_pick : K.lookup f__law_pick = some ⟨oc__law_pick, od__law_pick, .func (PySem.W.fnOf "_law_pick" "_law_pick" (defArgs s__law_pick) (defBody s__law_pick) (defScope s__law_pick) .none kV__law_pick dc__law_pick pm__law_pick an__law_pick cd__law_pick ct__law_pick), sl__law_pick⟩) (c__law_pick : PySem.W.codeIn K cd__law_pick "_law_pick" = true) (k__law_pick : PySem.W.keepIn K (.ref f__law_pick) = true)
    (a__law_lists : PySem.W.nsIn K mainGlobals "_law_lists" = some (some (.ref f__law_lists))) (l__law_lists : K.lookup f__law_lists = some ⟨oc__law_lists, od__law_lists, .func (PySem.W.fnOf "_law_lists" "_law_lists" (defArgs s__law_lists) (defBody s__law_lists) (defScope s__law_lists) .none kV__law_lists dc__law_lists pm__law_lists an__law_lists cd__law_lists ct__law_lists), sl__law_lists⟩) (c__law_lists : PySem.W.codeIn K cd__law_lists "_law_lists" = true) (k__law_lists : PySem.W.keepIn K (.ref f__law_lists) = true)
    (a__law_same : PySem.W.nsIn K mainGlobals "_law_same" = some (some (.ref f__law_same))) (l__law_same : K.lookup f__law_same = some ⟨oc__law_same, od__law_same, .func (PySem.W.fnOf "_law_same" "_law_same" (defArgs s__law_same) (defBody s__law_same) (defScope s__law_same) .none kV__law_same dc__law_same pm__law_same an__law_same cd__law_same ct__law_same), sl__law_same⟩) (c__law_same : PySem.W.codeIn K cd__law_same "_law_same" = true) (k__law_same : PySem.W.keepIn K (.ref f__law_same) = true)
    (a__law_words : PySem.W.nsIn K mainGlobals "_law_words" = some (some (.ref f__law_words))) (l__law_words : K.lookup f__law_words = some ⟨oc__law_words, od__law_words, .func (PySem.W.fnOf "_law_words" "_law_words" (defArgs s__law_words) (defBody s__law_words) (defScope s__law_words) .none kV__law_words dc__law_words pm__law_words an__law_words cd__law_words ct__law_words), sl__law_words⟩) (c__law_words : PySem.W.codeIn K cd__law_words "_law_words" = true) (k__law_words : PySem.W.keepIn K (.ref f__law_words) = true)
    (a__law_text : PySem.W.nsIn K mainGlobals "_law_text" = some (some (.ref f__law_text))) (l__law_text : K.lookup f__law_text = some ⟨oc__law_text, od__law_text, .func (PySem.W.fnOf "_law_text" "_law_text" (defArgs s__law_text) (defBody s__law_text) (defScope s__law_text) .none kV__law_text dc__law_text pm__law_text an__law_text cd__law_text ct__law_text), sl__law_text⟩) (c__law_text : PySem.W.codeIn K cd__law_text "_law_text" = true) (k__law_text : PySem.W.keepIn K (.ref f__law_text) = true)
    (a__law_letters_of : PySem.W.nsIn K mainGlobals "_law_letters_of" = some (some (.ref f__law_letters_of))) (l__law_letters_of : K.lookup f__law_letters_of = some ⟨oc__law_letters_of, od__law_letters_of, .func (PySem.W.fnOf "_law_letters_of" "_law_letters_of" (defArgs s__law_letters_of) (defBody s__law_letters_of) (defScope s__law_letters_of) .none kV__law_letters_of dc__law_letters_of pm__law_letters_of an__law_letters_of cd__law_letters_of ct__law_letters_of), sl__law_letters_of⟩) (c__law_letters_of : PySem.W.codeIn K cd__law_letters_of "_law_letters_of" = true) (k__law_letters_of : PySem.W.keepIn K (.ref f__law_letters_of) = true)
    (a__law_found : PySem.W.nsIn K mainGlobals "_law_found" = some (some (.ref f__law_found))) (l__law_found : K.lookup f__law_found = some ⟨oc__law_found, od__law_found, .func (PySem.W.fnOf "_law_found" "_law_found" (defArgs s__law_found) (defBody s__law_found) (defScope s__law_found) .none kV__law_found dc__law_found pm__law_found an__law_found cd__law_found ct__law_found), sl__law_found⟩) (c__law_found : PySem.W.codeIn K cd__law_found "_law_found" = true) (k__law_found : PySem.W.keepIn K (.ref f__law_found) = true)
    (a__law_named : PySem.W.nsIn K mainGlobals "_law_named" = some (some (.ref f__law_named))) (l__law_named : K.lookup f__law_named = some ⟨oc__law_named, od__law_named, .func (PySem.W.fnOf "_law_named" "_law_named" (defArgs s__law_named) (defBody s__law_named) (defScope s__law_named) .none kV__law_named dc__law_named pm__law_named an__law_named cd__law_named ct__law_named), sl__law_named⟩) (c__law_named : PySem.W.codeIn K cd__law_named "_law_named" = true) (k__law_named : PySem.W.keepIn K (.ref f__law_named) = true)
    (a__law_naming : PySem.W.nsIn K mainGlobals "_law_naming" = some (some (.ref f__law_naming))) (l__law_naming : K.lookup f__law_naming = some ⟨oc__law_naming, od__law_naming, .func (PySem.W.fnOf "_law_naming" "_law_naming" (defArgs s__law_naming) (defBody s__law_naming) (defScope s__law_naming) .none kV__law_naming dc__law_naming pm__law_naming an__law_naming cd__law_naming ct__law_naming), sl__law_naming⟩) (c__law_naming : PySem.W.codeIn K cd__law_naming "_law_naming" = true) (k__law_naming : PySem.W.keepIn K (.ref f__law_naming) = true)
    (a__law_at : PySem.W.nsIn K mainGlobals "_law_at" = some (some (.ref f__law_at))) (l__law_at : K.lookup f__law_at = some ⟨oc__law_at, od__law_at, .func (PySem.W.fnOf "_law_at" "_law_at" (defArgs s__law_at) (defBody s__law_at) (defScope s__law_at) .none kV__law_at dc__law_at pm__law_at an__law_at cd__law_at ct__law_at), sl__law_at⟩) (c__law_at : PySem.W.codeIn K cd__law_at "_law_at" = true) (k__law_at : PySem.W.keepIn K (.ref f__law_at) = true)
    (a__law_front_right : PySem.W.nsIn K mainGlobals "_law_front_right" = some (some (.ref f__law_front_right))) (l__law_front_right : K.lookup f__law_front_right = some ⟨oc__law_front_right, od__law_front_right, .func (PySem.W.fnOf "_law_front_right" "_law_front_right" (defArgs s__law_front_right) (defBody s__law_front_right) (defScope s__law_front_right) .none kV__law_front_right dc__law_front_right pm__law_front_right an__law_front_right cd__law_front_right ct__law_front_right), sl__law_front_right⟩) (c__law_front_right : PySem.W.codeIn K cd__law_front_right "_law_front_right" = true) (k__law_front_right : PySem.W.keepIn K (.ref f__law_front_right) = true)
    (a__law_heard : PySem.W.nsIn K mainGlobals "_law_heard" = some (some (.ref f__law_heard))) (l__law_heard : K.lookup f__law_heard = some ⟨oc__law_heard, od__law_heard, .func (PySem.W.fnOf "_law_heard" "_law_heard" (defArgs s__law_heard) (defBody s__law_heard) (defScope s__law_heard) .none kV__law_heard dc__law_heard pm__law_heard an__law_heard cd__law_heard ct__law_heard), sl__law_heard⟩) (c__law_heard : PySem.W.codeIn K cd__law_heard "_law_heard" = true) (k__law_heard : PySem.W.keepIn K (.ref f__law_heard) = true)
    (a__law_word : PySem.W.nsIn K mainGlobals "_law_word" = some (some (.ref f__law_word))) (l__law_word : K.lookup f__law_word = some ⟨oc__law_word, od__law_word, .func (PySem.W.fnOf "_law_word" "_law_word" (defArgs s__law_word) (defBody s__law_word) (defScope s__law_word) .none kV__law_word dc__law_word pm__law_word an__law_word cd__law_word ct__law_word), sl__law_word⟩) (c__law_word : PySem.W.codeIn K cd__law_word "_law_word" = true) (k__law_word : PySem.W.keepIn K (.ref f__law_word) = true)
    (a__law_right : PySem.W.nsIn K mainGlobals "_law_right" = some (some (.ref f__law_right))) (l__law_right : K.lookup f__law_right = some ⟨oc__law_right, od__law_right, .func (PySem.W.fnOf "_law_right" "_law_right" (defArgs s__law_right) (defBody s__law_right) (defScope s__law_right) .none kV__law_right dc__law_right pm__law_right an__law_right cd__law_right ct__law_right), sl__law_right⟩) (c__law_right : PySem.W.codeIn K cd__law_right "_law_right" = true) (k__law_right : PySem.W.keepIn K (.ref f__law_right) = true)
    (a_law : PySem.W.nsIn K mainGlobals "law" = some (some (.ref f_law))) (l_law : K.lookup f_law = some ⟨oc_law, od_law, .func (PySem.W.fnOf "law" "law" (defArgs s_law) (defBody s_law) (defScope s_law) .none kV_law dc_law pm_law an_law cd_law ct_law), sl_law⟩) (c_law : PySem.W.codeIn K cd_law "law" = true) (k_law : PySem.W.keepIn K (.ref f_law) = true)
    (z_isinstance : PySem.W.nsIn K mainGlobals "isinstance" = some none)
    (z_int : PySem.W.nsIn K mainGlobals "int" = some none)
    (z_bool : PySem.W.nsIn K mainGlobals "bool" = some none)
    (z_list : PySem.W.nsIn K mainGlobals "list" = some none)
    (z_tuple : PySem.W.nsIn K mainGlobals "tuple" = some none)
    (z_str : PySem.W.nsIn K mainGlobals "str" = some none)
    (z_len : PySem.W.nsIn K mainGlobals "len" = some none)
    (z_range : PySem.W.nsIn K mainGlobals "range" = some none)
    (z_zip : PySem.W.nsIn K mainGlobals "zip" = some none)
    (z_enumerate : PySem.W.nsIn K mainGlobals "enumerate" = some none)
    (z_sorted : PySem.W.nsIn K mainGlobals "sorted" = some none)
    (z_set : PySem.W.nsIn K mainGlobals "set" = some none)
    (z_all : PySem.W.nsIn K mainGlobals "all" = some none)
    (z_abs : PySem.W.nsIn K mainGlobals "abs" = some none)
    (z_min : PySem.W.nsIn K mainGlobals "min" = some none)
    (z_ValueError : PySem.W.nsIn K mainGlobals "ValueError" = some none)
    (n_gP : PySem.W.nsIn K mainGlobals "CanNot" = some (some (.ref C)))
    (n_xP : PySem.W.excIn K C [.type "ValueError", .type "Exception", .type "BaseException", .type "object"] "ValueError.__new__" = true)
    (n_kP : PySem.W.keepIn K (.ref C) = true)
    (n_bP : PySem.W.subIn K (.ref C) (.type "BaseException") = some true)
    (n_tP : PySem.W.typeIn K (.ref C) = some (.type "type"))
    (n_iP : PySem.W.isClsIn K C = true)
    (n_sP : PySem.W.subIn K (.ref C) (.ref C) = some true)
    (n_hg : PySem.W.findIn K (.ref C) "__getattribute__" = some (some (.builtin "BaseException.__getattribute__")))
    (n_hk : PySem.W.findIn K (.ref C) "__getattr__" = some none)
    (n_hd : PySem.W.hasDictIn K C = true)
    (n_ha : PySem.W.findIn K (.ref C) "__class__" = some (some (.builtin "object.__class__")))
    (n_hn : PySem.W.specialIn K (.builtin "object.__class__") "__get__" = some (some (.builtin "getset_descriptor.__get__")))
    (n_ht : PySem.W.takesIn K (.builtin "object.__class__") = some true)
    (n_hm : PySem.W.mroIn K C (.type "object") = some true)
    (n_vP : PySem.W.kitOne K (.ref C) (.type "ValueError") = some true) :
    ∃ fd : FuncData, (∀ (s : Shared) (v : Value), BindsTo s fd ⟨[v], []⟩ [("_law_script", v)]) ∧ ∀ base : Heap, K.In base → base.Ns mainGlobals mg → FnOk l.prog w K mg base CX0 27 fa fd ["_law_script"] (spLaw K) := by
  have e := hfa.symm.trans (PySem.W.mg_of X G a_law)
  cases e
  have F_is_number := fun_mk (st := s_is_number) l_is_number c_is_number k_is_number
  have C_is_number : Cl K mg "is_number" f_is_number _ ["thing"] := ⟨PySem.W.mg_of X G a_is_number, k_is_number, F_is_number.binds (ps := ["thing"]) fun _ _ _ _ _ _ us hl => match us, hl with | [_], _ => rfl⟩
  have F_tuple_of := fun_mk (st := s_tuple_of) l_tuple_of c_tuple_of k_tuple_of
  have C_tuple_of : Cl K mg "tuple_of" f_tuple_of _ ["thing"] := ⟨PySem.W.mg_of X G a_tuple_of, k_tuple_of, F_tuple_of.binds (ps := ["thing"]) fun _ _ _ _ _ _ us hl => match us, hl with | [_], _ => rfl⟩
  have F_sure_place := fun_mk (st := s_sure_place) l_sure_place c_sure_place k_sure_place
  have C_sure_place : Cl K mg "sure_place" f_sure_place _ ["text", "place"] := ⟨PySem.W.mg_of X G a_sure_place, k_sure_place, F_sure_place.binds (ps := ["text", "place"]) fun _ _ _ _ _ _ us hl => match us, hl with | [_, _], _ => rfl⟩
  have F_stands_at := fun_mk (st := s_stands_at) l_stands_at c_stands_at k_stands_at
  have C_stands_at : Cl K mg "stands_at" f_stands_at _ ["text", "place"] := ⟨PySem.W.mg_of X G a_stands_at, k_stands_at, F_stands_at.binds (ps := ["text", "place"]) fun _ _ _ _ _ _ us hl => match us, hl with | [_, _], _ => rfl⟩
  have F_gone_on := fun_mk (st := s_gone_on) l_gone_on c_gone_on k_gone_on
  have C_gone_on : Cl K mg "gone_on" f_gone_on _ ["naming", "number"] := ⟨PySem.W.mg_of X G a_gone_on, k_gone_on, F_gone_on.binds (ps := ["naming", "number"]) fun _ _ _ _ _ _ us hl => match us, hl with | [_, _], _ => rfl⟩
  have F_begun := fun_mk (st := s_begun) l_begun c_begun k_begun
  have C_begun : Cl K mg "begun" f_begun _ ["naming"] := ⟨PySem.W.mg_of X G a_begun, k_begun, F_begun.binds (ps := ["naming"]) fun _ _ _ _ _ _ us hl => match us, hl with | [_], _ => rfl⟩
  have F_with_found := fun_mk (st := s_with_found) l_with_found c_with_found k_with_found
  have C_with_found : Cl K mg "with_found" f_with_found _ ["naming", "row", "letter", "place", "number"] := ⟨PySem.W.mg_of X G a_with_found, k_with_found, F_with_found.binds (ps := ["naming", "row", "letter", "place", "number"]) fun _ _ _ _ _ _ us hl => match us, hl with | [_, _, _, _, _], _ => rfl⟩
  have F_with_last := fun_mk (st := s_with_last) l_with_last c_with_last k_with_last
  have C_with_last : Cl K mg "with_last" f_with_last _ ["naming", "row", "letter", "place", "own"] := ⟨PySem.W.mg_of X G a_with_last, k_with_last, F_with_last.binds (ps := ["naming", "row", "letter", "place", "own"]) fun _ _ _ _ _ _ us hl => match us, hl with | [_, _, _, _, _], _ => rfl⟩
  have F_grown := fun_mk (st := s_grown) l_grown c_grown k_grown
  have C_grown : Cl K mg "grown" f_grown _ ["naming", "row", "letter", "place"] := ⟨PySem.W.mg_of X G a_grown, k_grown, F_grown.binds (ps := ["naming", "row", "letter", "place"]) fun _ _ _ _ _ _ us hl => match us, hl with | [_, _, _, _], _ => rfl⟩
  have F_ended := fun_mk (st := s_ended) l_ended c_ended k_ended
  have C_ended : Cl K mg "ended" f_ended _ ["naming", "row", "size"] := ⟨PySem.W.mg_of X G a_ended, k_ended, F_ended.binds (ps := ["naming", "row", "size"]) fun _ _ _ _ _ _ us hl => match us, hl with | [_, _, _], _ => rfl⟩
  have F_form_of := fun_mk (st := s_form_of) l_form_of c_form_of k_form_of
  have C_form_of : Cl K mg "form_of" f_form_of _ ["rows", "text"] := ⟨PySem.W.mg_of X G a_form_of, k_form_of, F_form_of.binds (ps := ["rows", "text"]) fun _ _ _ _ _ _ us hl => match us, hl with | [_, _], _ => rfl⟩
  have F_told_by_texts := fun_mk (st := s_told_by_texts) l_told_by_texts c_told_by_texts k_told_by_texts
  have C_told_by_texts : Cl K mg "told_by_texts" f_told_by_texts _ ["wide", "namings"] := ⟨PySem.W.mg_of X G a_told_by_texts, k_told_by_texts, F_told_by_texts.binds (ps := ["wide", "namings"]) fun _ _ _ _ _ _ us hl => match us, hl with | [_, _], _ => rfl⟩
  have F_order_of := fun_mk (st := s_order_of) l_order_of c_order_of k_order_of
  have C_order_of : Cl K mg "order_of" f_order_of _ ["wide", "one", "other"] := ⟨PySem.W.mg_of X G a_order_of, k_order_of, F_order_of.binds (ps := ["wide", "one", "other"]) fun _ _ _ _ _ _ us hl => match us, hl with | [_, _, _], _ => rfl⟩
  have F_are_one := fun_mk (st := s_are_one) l_are_one c_are_one k_are_one
  have C_are_one : Cl K mg "are_one" f_are_one _ ["wide", "one", "other"] := ⟨PySem.W.mg_of X G a_are_one, k_are_one, F_are_one.binds (ps := ["wide", "one", "other"]) fun _ _ _ _ _ _ us hl => match us, hl with | [_, _, _], _ => rfl⟩
  have F_unlike_named := fun_mk (st := s_unlike_named) l_unlike_named c_unlike_named k_unlike_named
  have C_unlike_named : Cl K mg "unlike_named" f_unlike_named _ ["wide", "one", "other"] := ⟨PySem.W.mg_of X G a_unlike_named, k_unlike_named, F_unlike_named.binds (ps := ["wide", "one", "other"]) fun _ _ _ _ _ _ us hl => match us, hl with | [_, _, _], _ => rfl⟩
  have F_letters_there := fun_mk (st := s_letters_there) l_letters_there c_letters_there k_letters_there
  have C_letters_there : Cl K mg "letters_there" f_letters_there _ ["wide", "naming"] := ⟨PySem.W.mg_of X G a_letters_there, k_letters_there, F_letters_there.binds (ps := ["wide", "naming"]) fun _ _ _ _ _ _ us hl => match us, hl with | [_, _], _ => rfl⟩
  have F_text_with := fun_mk (st := s_text_with) l_text_with c_text_with k_text_with
  have C_text_with : Cl K mg "text_with" f_text_with _ ["wide", "naming", "what"] := ⟨PySem.W.mg_of X G a_text_with, k_text_with, F_text_with.binds (ps := ["wide", "naming", "what"]) fun _ _ _ _ _ _ us hl => match us, hl with | [_, _, _], _ => rfl⟩
  have F__law_box := fun_mk (st := s__law_box) l__law_box c__law_box k__law_box
  have C__law_box : Cl K mg "_law_box" f__law_box _ ["_law_script", "_law_k"] := ⟨PySem.W.mg_of X G a__law_box, k__law_box, F__law_box.binds (ps := ["_law_script", "_law_k"]) fun _ _ _ _ _ _ us hl => match us, hl with | [_, _], _ => rfl⟩
  have F__law_take := fun_mk (st := s__law_take) l__law_take c__law_take k__law_take
  have C__law_take : Cl K mg "_law_take" f__law_take _ ["_law_urn", "_law_low_so"] := ⟨PySem.W.mg_of X G a__law_take, k__law_take, F__law_take.binds (ps := ["_law_urn", "_law_low_so"]) fun _ _ _ _ _ _ us hl => match us, hl with | [_, _], _ => rfl⟩
  have F__law_cells := fun_mk (st := s__law_cells) l__law_cells c__law_cells k__law_cells
  have C__law_cells : Cl K mg "_law_cells" f__law_cells _ ["_law_script", "_law_roof_so"] := ⟨PySem.W.mg_of X G a__law_cells, k__law_cells, F__law_cells.binds (ps := ["_law_script", "_law_roof_so"]) fun _ _ _ _ _ _ us hl => match us, hl with | [_, _], _ => rfl⟩
  have F__law_of := fun_mk (st := s__law_of) l__law_of c__law_of k__law_of
  have C__law_of : Cl K mg "_law_of" f__law_of _ ["_law_urn", "_law_some_so"] := ⟨PySem.W.mg_of X G a__law_of, k__law_of, F__law_of.binds (ps := ["_law_urn", "_law_some_so"]) fun _ _ _ _ _ _ us hl => match us, hl with | [_, _], _ => rfl⟩
  have F__law_pick := fun_mk (st := s__law_pick) l__law_pick c__law_pick k__law_pick
  have C__law_pick : Cl K mg "_law_pick" f__law_pick _ ["_law_urn", "_law_some", "_law_count"] := ⟨PySem.W.mg_of X G a__law_pick, k__law_pick, F__law_pick.binds (ps := ["_law_urn", "_law_some", "_law_count"]) fun _ _ _ _ _ _ us hl => match us, hl with | [_, _, _], _ => rfl⟩
  have F__law_lists := fun_mk (st := s__law_lists) l__law_lists c__law_lists k__law_lists
  have C__law_lists : Cl K mg "_law_lists" f__law_lists _ ["_law_matter"] := ⟨PySem.W.mg_of X G a__law_lists, k__law_lists, F__law_lists.binds (ps := ["_law_matter"]) fun _ _ _ _ _ _ us hl => match us, hl with | [_], _ => rfl⟩
  have F__law_same := fun_mk (st := s__law_same) l__law_same c__law_same k__law_same
  have C__law_same : Cl K mg "_law_same" f__law_same _ ["_law_near", "_law_goal"] := ⟨PySem.W.mg_of X G a__law_same, k__law_same, F__law_same.binds (ps := ["_law_near", "_law_goal"]) fun _ _ _ _ _ _ us hl => match us, hl with | [_, _], _ => rfl⟩
  have F__law_words := fun_mk (st := s__law_words) l__law_words c__law_words k__law_words
  have C__law_words : Cl K mg "_law_words" f__law_words _ ["_law_wide", "_law_most_so"] := ⟨PySem.W.mg_of X G a__law_words, k__law_words, F__law_words.binds (ps := ["_law_wide", "_law_most_so"]) fun _ _ _ _ _ _ us hl => match us, hl with | [_, _], _ => rfl⟩
  have F__law_text := fun_mk (st := s__law_text) l__law_text c__law_text k__law_text
  have C__law_text : Cl K mg "_law_text" f__law_text _ ["_law_urn", "_law_wide", "_law_most_so"] := ⟨PySem.W.mg_of X G a__law_text, k__law_text, F__law_text.binds (ps := ["_law_urn", "_law_wide", "_law_most_so"]) fun _ _ _ _ _ _ us hl => match us, hl with | [_, _, _], _ => rfl⟩
  have F__law_letters_of := fun_mk (st := s__law_letters_of) l__law_letters_of c__law_letters_of k__law_letters_of
  have C__law_letters_of : Cl K mg "_law_letters_of" f__law_letters_of _ ["_law_urn", "_law_wide"] := ⟨PySem.W.mg_of X G a__law_letters_of, k__law_letters_of, F__law_letters_of.binds (ps := ["_law_urn", "_law_wide"]) fun _ _ _ _ _ _ us hl => match us, hl with | [_, _], _ => rfl⟩
  have F__law_found := fun_mk (st := s__law_found) l__law_found c__law_found k__law_found
  have C__law_found : Cl K mg "_law_found" f__law_found _ ["_law_word_so", "_law_place_so", "_law_side", "_law_letters_so"] := ⟨PySem.W.mg_of X G a__law_found, k__law_found, F__law_found.binds (ps := ["_law_word_so", "_law_place_so", "_law_side", "_law_letters_so"]) fun _ _ _ _ _ _ us hl => match us, hl with | [_, _, _, _], _ => rfl⟩
  have F__law_named := fun_mk (st := s__law_named) l__law_named c__law_named k__law_named
  have C__law_named : Cl K mg "_law_named" f__law_named _ ["_law_word_so", "_law_naming_here"] := ⟨PySem.W.mg_of X G a__law_named, k__law_named, F__law_named.binds (ps := ["_law_word_so", "_law_naming_here"]) fun _ _ _ _ _ _ us hl => match us, hl with | [_, _], _ => rfl⟩
  have F__law_naming := fun_mk (st := s__law_naming) l__law_naming c__law_naming k__law_naming
  have C__law_naming : Cl K mg "_law_naming" f__law_naming _ ["_law_urn", "_law_wide", "_law_most_so"] := ⟨PySem.W.mg_of X G a__law_naming, k__law_naming, F__law_naming.binds (ps := ["_law_urn", "_law_wide", "_law_most_so"]) fun _ _ _ _ _ _ us hl => match us, hl with | [_, _, _], _ => rfl⟩
  have F__law_at := fun_mk (st := s__law_at) l__law_at c__law_at k__law_at
  have C__law_at : Cl K mg "_law_at" f__law_at _ ["_law_word_so", "_law_place_so"] := ⟨PySem.W.mg_of X G a__law_at, k__law_at, F__law_at.binds (ps := ["_law_word_so", "_law_place_so"]) fun _ _ _ _ _ _ us hl => match us, hl with | [_, _], _ => rfl⟩
  have F__law_front_right := fun_mk (st := s__law_front_right) l__law_front_right c__law_front_right k__law_front_right
  have C__law_front_right : Cl K mg "_law_front_right" f__law_front_right _ [] := ⟨PySem.W.mg_of X G a__law_front_right, k__law_front_right, F__law_front_right.binds (ps := []) fun _ _ _ _ _ _ us hl => match us, hl with | [], _ => rfl⟩
  have F__law_heard := fun_mk (st := s__law_heard) l__law_heard c__law_heard k__law_heard
  have C__law_heard : Cl K mg "_law_heard" f__law_heard _ ["_law_door", "_law_wide", "_law_one", "_law_two"] := ⟨PySem.W.mg_of X G a__law_heard, k__law_heard, F__law_heard.binds (ps := ["_law_door", "_law_wide", "_law_one", "_law_two"]) fun _ _ _ _ _ _ us hl => match us, hl with | [_, _, _, _], _ => rfl⟩
  have F__law_word := fun_mk (st := s__law_word) l__law_word c__law_word k__law_word
  have C__law_word : Cl K mg "_law_word" f__law_word _ ["_law_near", "_law_far"] := ⟨PySem.W.mg_of X G a__law_word, k__law_word, F__law_word.binds (ps := ["_law_near", "_law_far"]) fun _ _ _ _ _ _ us hl => match us, hl with | [_, _], _ => rfl⟩
  have F__law_right := fun_mk (st := s__law_right) l__law_right c__law_right k__law_right
  have C__law_right : Cl K mg "_law_right" f__law_right _ ["_law_urn"] := ⟨PySem.W.mg_of X G a__law_right, k__law_right, F__law_right.binds (ps := ["_law_urn"]) fun _ _ _ _ _ _ us hl => match us, hl with | [_], _ => rfl⟩
  have F_law := fun_mk (st := s_law) l_law c_law k_law
  have B : Bl mg := ⟨PySem.W.mg_none_of X G z_isinstance, PySem.W.mg_none_of X G z_int, PySem.W.mg_none_of X G z_bool, PySem.W.mg_none_of X G z_list, PySem.W.mg_none_of X G z_tuple, PySem.W.mg_none_of X G z_str, PySem.W.mg_none_of X G z_len, PySem.W.mg_none_of X G z_range, PySem.W.mg_none_of X G z_zip, PySem.W.mg_none_of X G z_enumerate, PySem.W.mg_none_of X G z_sorted, PySem.W.mg_none_of X G z_set, PySem.W.mg_none_of X G z_all, PySem.W.mg_none_of X G z_abs, PySem.W.mg_none_of X G z_min, PySem.W.mg_none_of X G z_ValueError⟩
  have CN : Cn K mg C := ⟨PySem.W.mg_of X G n_gP, n_xP, n_kP, n_bP, n_tP, n_iP, n_sP, ⟨n_hg, n_hk, n_bP, n_hd, n_ha, n_hn, n_ht, n_hm⟩, n_vP⟩
  refine ⟨PySem.W.fnOf "law" "law" (defArgs s_law) (defBody s_law) (defScope s_law) .none kV_law dc_law pm_law an_law cd_law ct_law, fun s v => .of_eq rfl, fun base _ _ => ?_⟩
  have G_is_number := ok_is_number (P := l.prog) (w := w) (base := base) B F_is_number
  have G_tuple_of := ok_tuple_of (P := l.prog) (w := w) (base := base) B F_tuple_of C_tuple_of 5
  have G_sure_place := ok_sure_place B C_is_number G_is_number F_sure_place
  have G_stands_at := ok_stands_at B C_sure_place G_sure_place F_stands_at
  have G_gone_on := ok_gone_on (P := l.prog) (w := w) (base := base) B F_gone_on
  have G_begun := ok_begun B C_gone_on G_gone_on F_begun
  have G_withs := ok_withs (P := l.prog) (w := w) (base := base) B C_with_found F_with_found C_with_last F_with_last 10
  have G_grown := ok_grown B C_with_found G_withs.1 C_with_last G_withs.2 F_grown
  have G_ended := ok_ended (P := l.prog) (w := w) (base := base) B F_ended
  have G_form_of := ok_form_of (P := l.prog) (w := w) (base := base) B F_form_of
  have G_told_by_texts := ok_told_by_texts B C_tuple_of G_tuple_of C_begun G_begun C_form_of G_form_of C_grown G_grown C_ended G_ended F_told_by_texts
  have G_order_of := ok_order_of B C_told_by_texts G_told_by_texts F_order_of
  have G_are_one := ok_are_one B C_order_of G_order_of F_are_one
  have G_unlike_named := ok_unlike_named B CN C_told_by_texts G_told_by_texts F_unlike_named
  have G_letters_there := ok_letters_there B C_told_by_texts G_told_by_texts C_stands_at G_stands_at F_letters_there
  have G_text_with := ok_text_with B CN C_told_by_texts G_told_by_texts C_stands_at G_stands_at F_text_with
  have G__law_box := ok_box (P := l.prog) (w := w) (base := base) B F__law_box
  have G__law_take := ok_take (P := l.prog) (w := w) (base := base) B F__law_take
  have G__law_cells := ok_cells (P := l.prog) (w := w) (base := base) B F__law_cells
  have G__law_of := ok_of B C__law_take G__law_take F__law_of
  have G__law_text := ok_text B C__law_take G__law_take F__law_text
  have G__law_pick := ok_pick B C__law_take G__law_take F__law_pick
  have G__law_letters_of := ok_letters_of B C__law_take G__law_take C__law_pick G__law_pick F__law_letters_of
  have G__law_naming := ok_naming B C__law_take G__law_take C__law_of G__law_of C__law_letters_of G__law_letters_of F__law_naming
  have G__law_lists := ok_lists (P := l.prog) (w := w) (base := base) B F__law_lists C__law_lists 4
  have G__law_same := ok_same (P := l.prog) (w := w) (base := base) B F__law_same C__law_same 5
  have G__law_words := ok_words (P := l.prog) (w := w) (base := base) B F__law_words
  have G__law_found := ok_found (P := l.prog) (w := w) (base := base) B F__law_found
  have G__law_named := ok_named B C__law_found G__law_found F__law_named
  have G__law_at := ok_at (P := l.prog) (w := w) (base := base) B F__law_at
  have G__law_word := ok_word (P := l.prog) (w := w) (base := base) B F__law_word
  have G__law_heard := ok_heard B CN C_unlike_named G_unlike_named C_text_with G_text_with F__law_heard
  have G__law_front_right := ok_front_right B C_order_of G_order_of C_are_one G_are_one C__law_heard G__law_heard C_letters_there G_letters_there C__law_same G__law_same F__law_front_right
  have G__law_right := ok_right B C__law_take G__law_take C__law_naming G__law_naming C__law_words G__law_words C__law_named G__law_named C__law_word G__law_word C_order_of G_order_of C__law_lists G__law_lists C_are_one G_are_one C__law_heard G__law_heard C__law_same G__law_same C__law_text G__law_text C__law_at G__law_at C_letters_there G_letters_there C__law_of G__law_of F__law_right
  exact ok_law C__law_front_right G__law_front_right C__law_right G__law_right C__law_box G__law_box C__law_cells G__law_cells F_law
end Nx
open PySem PySem.W PyProof.Rows
set_option maxHeartbeats 0 in
theorem PySem.Challenge.cw_nextsuch_k40_whole_namings_by_all_little_holds : PySem.Challenge.rw_nextsuch_k40_whole_namings_by_all_little.Holds := by
  w_on; o_law; k_head; (case hw => w_witness2)
  k_fill
  refine L2.walk_of (l := PySem.Challenge.rw_nextsuch_k40_whole_namings_by_all_little) (n := 63) (k := 27) (x := "_law_script") (CX := fun _ => L2.CX0) (sp := fun w => Nx.spLaw _) rfl (by decide) rfl ⟨rfl, by decide, by decide⟩ (fun w h Y => PySem.W.kIn_of Y) ?F (fun _ _ a ns hl _ hS => ⟨a, ns, rfl, hS, hl, fun _ => rfl⟩) (fun _ _ _ _ _ h => h)
  case F =>
    intro w mg fa h KX G hmg
    refine' Nx.all_mk KX G hmg ?a_is_number ?l_is_number ?c_is_number ?k_is_number ?a_tuple_of ?l_tuple_of ?c_tuple_of ?k_tuple_of ?a_sure_place ?l_sure_place ?c_sure_place ?k_sure_place ?a_stands_at ?l_stands_at ?c_stands_at ?k_stands_at ?a_gone_on ?l_gone_on ?c_gone_on ?k_gone_on ?a_begun ?l_begun ?c_begun ?k_begun ?a_with_found ?l_with_found ?c_with_found ?k_with_found ?a_with_last ?l_with_last ?c_with_last ?k_with_last ?a_grown ?l_grown ?c_grown ?k_grown ?a_ended ?l_ended ?c_ended ?k_ended ?a_form_of ?l_form_of ?c_form_of ?k_form_of ?a_told_by_texts ?l_told_by_texts ?c_told_by_texts ?k_told_by_texts ?a_order_of ?l_order_of ?c_order_of ?k_order_of ?a_are_one ?l_are_one ?c_are_one ?k_are_one ?a_unlike_named ?l_unlike_named ?c_unlike_named ?k_unlike_named ?a_letters_there ?l_letters_there ?c_letters_there ?k_letters_there ?a_text_with ?l_text_with ?c_text_with ?k_text_with ?a__law_box ?l__law_box ?c__law_box ?k__law_box ?a__law_take ?l__law_take ?c__law_take ?k__law_take ?a__law_cells ?l__law_cells ?c__law_cells ?k__law_cells ?a__law_of ?l__law_of ?c__law_of ?k__law_of ?a__law_pick ?l__law_pick ?c__law_pick ?k__law_pick ?a__law_lists ?l__law_lists ?c__law_lists ?k__law_lists ?a__law_same ?l__law_same ?c__law_same ?k__law_same ?a__law_words ?l__law_words ?c__law_words ?k__law_words ?a__law_text ?l__law_text ?c__law_text ?k__law_text ?a__law_letters_of ?l__law_letters_of ?c__law_letters_of ?k__law_letters_of ?a__law_found ?l__law_found ?c__law_found ?k__law_found ?a__law_named ?l__law_named ?c__law_named ?k__law_named ?a__law_naming ?l__law_naming ?c__law_naming ?k__law_naming ?a__law_at ?l__law_at ?c__law_at ?k__law_at ?a__law_front_right ?l__law_front_right ?c__law_front_right ?k__law_front_right ?a__law_heard ?l__law_heard ?c__law_heard ?k__law_heard ?a__law_word ?l__law_word ?c__law_word ?k__law_word ?a__law_right ?l__law_right ?c__law_right ?k__law_right ?a_law ?l_law ?c_law ?k_law ?z_isinstance ?z_int ?z_bool ?z_list ?z_tuple ?z_str ?z_len ?z_range ?z_zip ?z_enumerate ?z_sorted ?z_set ?z_all ?z_abs ?z_min ?z_ValueError ?n_gP ?n_xP ?n_kP ?n_bP ?n_tP ?n_iP ?n_sP ?n_hg ?n_hk ?n_hd ?n_ha ?n_hn ?n_ht ?n_hm ?n_vP
    (case a_is_number => k_is)
    (case l_is_number => k_is)
    (case c_is_number => k_is)
    (case k_is_number => k_is)
    (case a_tuple_of => k_is)
    (case l_tuple_of => k_is)
    (case c_tuple_of => k_is)
    (case k_tuple_of => k_is)
    (case a_sure_place => k_is)
    (case l_sure_place => k_is)
    (case c_sure_place => k_is)
    (case k_sure_place => k_is)
    (case a_stands_at => k_is)
    (case l_stands_at => k_is)
    (case c_stands_at => k_is)
    (case k_stands_at => k_is)
    (case a_gone_on => k_is)
    (case l_gone_on => k_is)
    (case c_gone_on => k_is)
    (case k_gone_on => k_is)
    (case a_begun => k_is)
    (case l_begun => k_is)
    (case c_begun => k_is)
    (case k_begun => k_is)
    (case a_with_found => k_is)
    (case l_with_found => k_is)
    (case c_with_found => k_is)
    (case k_with_found => k_is)
    (case a_with_last => k_is)
    (case l_with_last => k_is)
    (case c_with_last => k_is)
    (case k_with_last => k_is)
    (case a_grown => k_is)
    (case l_grown => k_is)
    (case c_grown => k_is)
    (case k_grown => k_is)
    (case a_ended => k_is)
    (case l_ended => k_is)
    (case c_ended => k_is)
    (case k_ended => k_is)
    (case a_form_of => k_is)
    (case l_form_of => k_is)
    (case c_form_of => k_is)
    (case k_form_of => k_is)
    (case a_told_by_texts => k_is)
    (case l_told_by_texts => k_is)
    (case c_told_by_texts => k_is)
    (case k_told_by_texts => k_is)
    (case a_order_of => k_is)
    (case l_order_of => k_is)
    (case c_order_of => k_is)
    (case k_order_of => k_is)
    (case a_are_one => k_is)
    (case l_are_one => k_is)
    (case c_are_one => k_is)
    (case k_are_one => k_is)
    (case a_unlike_named => k_is)
    (case l_unlike_named => k_is)
    (case c_unlike_named => k_is)
    (case k_unlike_named => k_is)
    (case a_letters_there => k_is)
    (case l_letters_there => k_is)
    (case c_letters_there => k_is)
    (case k_letters_there => k_is)
    (case a_text_with => k_is)
    (case l_text_with => k_is)
    (case c_text_with => k_is)
    (case k_text_with => k_is)
    (case a__law_box => k_is)
    (case l__law_box => k_is)
    (case c__law_box => k_is)
    (case k__law_box => k_is)
    (case a__law_take => k_is)
    (case l__law_take => k_is)
    (case c__law_take => k_is)
    (case k__law_take => k_is)
    (case a__law_cells => k_is)
    (case l__law_cells => k_is)
    (case c__law_cells => k_is)
    (case k__law_cells => k_is)
    (case a__law_of => k_is)
    (case l__law_of => k_is)
    (case c__law_of => k_is)
    (case k__law_of => k_is)
    (case a__law_pick => k_is)
    (case l__law_pick => k_is)
    (case c__law_pick => k_is)
    (case k__law_pick => k_is)
    (case a__law_lists => k_is)
    (case l__law_lists => k_is)
    (case c__law_lists => k_is)
    (case k__law_lists => k_is)
    (case a__law_same => k_is)
    (case l__law_same => k_is)
    (case c__law_same => k_is)
    (case k__law_same => k_is)
    (case a__law_words => k_is)
    (case l__law_words => k_is)
    (case c__law_words => k_is)
    (case k__law_words => k_is)
    (case a__law_text => k_is)
    (case l__law_text => k_is)
    (case c__law_text => k_is)
    (case k__law_text => k_is)
    (case a__law_letters_of => k_is)
    (case l__law_letters_of => k_is)
    (case c__law_letters_of => k_is)
    (case k__law_letters_of => k_is)
    (case a__law_found => k_is)
    (case l__law_found => k_is)
    (case c__law_found => k_is)
    (case k__law_found => k_is)
    (case a__law_named => k_is)
    (case l__law_named => k_is)
    (case c__law_named => k_is)
    (case k__law_named => k_is)
    (case a__law_naming => k_is)
    (case l__law_naming => k_is)
    (case c__law_naming => k_is)
    (case k__law_naming => k_is)
    (case a__law_at => k_is)
    (case l__law_at => k_is)
    (case c__law_at => k_is)
    (case k__law_at => k_is)
    (case a__law_front_right => k_is)
    (case l__law_front_right => k_is)
    (case c__law_front_right => k_is)
    (case k__law_front_right => k_is)
    (case a__law_heard => k_is)
    (case l__law_heard => k_is)
    (case c__law_heard => k_is)
    (case k__law_heard => k_is)
    (case a__law_word => k_is)
    (case l__law_word => k_is)
    (case c__law_word => k_is)
    (case k__law_word => k_is)
    (case a__law_right => k_is)
    (case l__law_right => k_is)
    (case c__law_right => k_is)
    (case k__law_right => k_is)
    (case a_law => k_is)
    (case l_law => k_is)
    (case c_law => k_is)
    (case k_law => k_is)
    (case z_isinstance => k_is)
    (case z_int => k_is)
    (case z_bool => k_is)
    (case z_list => k_is)
    (case z_tuple => k_is)
    (case z_str => k_is)
    (case z_len => k_is)
    (case z_range => k_is)
    (case z_zip => k_is)
    (case z_enumerate => k_is)
    (case z_sorted => k_is)
    (case z_set => k_is)
    (case z_all => k_is)
    (case z_abs => k_is)
    (case z_min => k_is)
    (case z_ValueError => k_is)
    (case n_gP => k_is)
    (case n_xP => k_exc)
    (case n_kP => k_is)
    (case n_bP => k_is)
    (case n_tP => k_is)
    (case n_iP => k_is)
    (case n_sP => first | k_is | rfl)
    (case n_hg => k_is)
    (case n_hk => k_is)
    (case n_hd => k_is)
    (case n_ha => k_is)
    (case n_hn => first | k_is | rfl)
    (case n_ht => first | k_is | rfl)
    (case n_hm => k_is)
    (case n_vP => first | k_is | rfl)
