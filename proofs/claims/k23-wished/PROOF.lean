import PyProof.Rows.All
import Wide.All
import OpenK.AllK
import Wide.FinOn
import KE.KStateDown
import HandS.ForMost
import HandS.ForExc
import HandS.Defaults
import HandS.CallSlots
import HandS.Evl
import HandS.StrMore
import HandS.SortInts
import HandS.TupAny
import HandS.TupMul
import HandS.ExcIs
import PyProof.Rows.StrCut
import PyProof.StrLawsTight
import PyProof.StrLawsLast
import PyProof.StrLawsFrom
import HandS.HeadEnd
import HandS.HeadHook4
import HandS.Dict
import HandS.More
import HandS.Conv
import KE.KDictList
import KE.DatumOrd
import HandS.Style
import HandS.Deep
import HandS.Sort
import HandS.Head0
import HandS.Head1
import HandS.Head2
import HandS.HeadHook1
import HandS.HeadHook2
import HandS.HeadHook3
import PySem.Challenge.RW_caretrows_k23_whole_wished
set_option Elab.async false
set_option linter.all false
set_option maxRecDepth 100000
set_option maxHeartbeats 4000000
section
namespace CR

def wd (c : Nat) : Nat := if 65 ≤ c ∧ c ≤ 90 then 2 else 1
def wideN (t : List Nat) : Nat := (t.map wd).sum
theorem wd_pos (c : Nat) : 1 ≤ wd c ∧ wd c ≤ 2 := by unfold wd; split <;> omega
theorem wideN_nil : wideN [] = 0 := rfl
theorem wideN_cons (c : Nat) (t : List Nat) : wideN (c :: t) = wd c + wideN t := by unfold wideN; rw [List.map_cons, List.sum_cons]
theorem wideN_one (c : Nat) : wideN [c] = wd c := by rw [wideN_cons]; rfl
theorem wideN_append (s t : List Nat) : wideN (s ++ t) = wideN s + wideN t := by
  induction s with
  | nil => rw [List.nil_append, wideN_nil]; omega
  | cons c s ih => rw [List.cons_append, wideN_cons, wideN_cons, ih]; omega
theorem wideN_len (t : List Nat) : t.length ≤ wideN t ∧ wideN t ≤ 2 * t.length := by
  induction t with
  | nil => exact ⟨Nat.le_refl _, Nat.le_refl _⟩
  | cons c t ih =>
    rw [wideN_cons, List.length_cons]
    have := wd_pos c
    omega
theorem wideN_split (t : List Nat) (n : Nat) : wideN t = wideN (t.take n) + wideN (t.drop n) := by
  rw [← wideN_append, List.take_append_drop]
theorem wideN_take_le (t : List Nat) (n : Nat) : wideN (t.take n) ≤ wideN t := by
  have := wideN_split t n
  omega
theorem wideN_take_mono (t : List Nat) {m n : Nat} (h : m ≤ n) : wideN (t.take m) ≤ wideN (t.take n) := by
  have := wideN_take_le (t.take n) m
  rwa [List.take_take, Nat.min_eq_left h] at this

def fitG (w : Nat) : List Nat → Nat
  | [] => 0
  | c :: t => if wd c ≤ w then fitG (w - wd c) t + 1 else 0
theorem fitG_le : ∀ (w : Nat) (t : List Nat), fitG w t ≤ t.length
  | _, [] => Nat.le_refl _
  | w, c :: t => by
    unfold fitG
    split
    · have := fitG_le (w - wd c) t
      rw [List.length_cons]; omega
    · exact Nat.zero_le _
/-- it is the greatest number of signs that fit -/
theorem fitG_iff : ∀ (w : Nat) (t : List Nat) (n : Nat), n ≤ t.length → (n ≤ fitG w t ↔ wideN (t.take n) ≤ w)
  | w, t, 0, _ => by simp [wideN_nil]
  | w, [], n + 1, h => by simp at h
  | w, c :: t, n + 1, h => by
    rw [List.take_succ_cons, wideN_cons]
    unfold fitG
    by_cases hc : wd c ≤ w
    · rw [if_pos hc]
      have := fitG_iff (w - wd c) t n (by simpa using h)
      omega
    · rw [if_neg hc]
      omega
theorem fitG_pos {w : Nat} (hw : 2 ≤ w) {t : List Nat} (h : t ≠ []) : 1 ≤ fitG w t := by
  cases t with
  | nil => exact absurd rfl h
  | cons c t =>
    unfold fitG
    have := wd_pos c
    rw [if_pos (by omega)]
    omega
/-- the number of blanks that a text begins with -/
def blanks : List Nat → Nat
  | [] => 0
  | c :: t => if c = 32 then blanks t + 1 else 0
theorem blanks_le : ∀ t : List Nat, blanks t ≤ t.length
  | [] => Nat.le_refl _
  | c :: t => by
    unfold blanks
    have := blanks_le t
    split
    · rw [List.length_cons]; omega
    · exact Nat.zero_le _
/-- behind the last blank of the first n signs, or 0 -/
def cutB (t : List Nat) : Nat → Nat
  | 0 => 0
  | n + 1 => if t.getD n 0 = 32 then n + 1 else cutB t n
theorem cutB_le (t : List Nat) : ∀ n, cutB t n ≤ n
  | 0 => Nat.le_refl _
  | n + 1 => by
    unfold cutB
    have := cutB_le t n
    split <;> omega
/-- how far signs and then blanks go -/
def rowE (w : Nat) (p : List Nat) : Nat := fitG w p + blanks (p.drop (fitG w p))
theorem rowE_le (w : Nat) (p : List Nat) : rowE w p ≤ p.length := by
  unfold rowE
  have h1 := fitG_le w p
  have h2 := blanks_le (p.drop (fitG w p))
  rw [List.length_drop] at h2
  omega
/-- the length of a paragraph's first row -/
def rowLen (w : Nat) (p : List Nat) : Nat := if rowE w p = p.length then p.length else (if 0 < cutB p (rowE w p) then cutB p (rowE w p) else rowE w p)
theorem rowLen_le (w : Nat) (p : List Nat) : rowLen w p ≤ p.length := by
  unfold rowLen
  have h1 := rowE_le w p
  have h2 := cutB_le p (rowE w p)
  split
  · exact Nat.le_refl _
  · split <;> omega
theorem rowLen_pos {w : Nat} (hw : 2 ≤ w) {p : List Nat} (h : p ≠ []) : 1 ≤ rowLen w p := by
  have h1 := fitG_pos hw h
  unfold rowLen
  split
  · cases p with
    | nil => exact absurd rfl h
    | cons c t => simp
  · split
    · omega
    · unfold rowE; omega
/-- the lengths of a paragraph's rows -/
def parLens (w : Nat) : Nat → List Nat → List Nat
  | 0, p => [p.length]
  | n + 1, p => if rowLen w p < p.length then rowLen w p :: parLens w n (p.drop (rowLen w p)) else [p.length]
/-- a row: where it begins, where it ends, whether it is soft -/
abbrev RowT := Nat × Nat × Bool
/-- a paragraph's rows from a place on, by fuel -/
def parRowsF (w : Nat) : Nat → Nat → List Nat → List RowT
  | 0, a, p => [(a, a + p.length, false)]
  | n + 1, a, p => if rowLen w p < p.length then (a, a + rowLen w p, true) :: parRowsF w n (a + rowLen w p) (p.drop (rowLen w p)) else [(a, a + p.length, false)]
def parRows (w a : Nat) (p : List Nat) : List RowT := parRowsF w p.length a p
theorem parRowsF_fuel {w : Nat} (hw : 2 ≤ w) : ∀ (n m a : Nat) (p : List Nat), p.length ≤ n → p.length ≤ m → parRowsF w n a p = parRowsF w m a p
  | 0, 0, _, _, _, _ => rfl
  | 0, m + 1, a, p, h, _ => by
    have e : p = [] := List.length_eq_zero_iff.mp (by omega)
    subst e
    unfold parRowsF
    rw [if_neg (by simp)]
  | n + 1, 0, a, p, _, h => by
    have e : p = [] := List.length_eq_zero_iff.mp (by omega)
    subst e
    unfold parRowsF
    rw [if_neg (by simp)]
  | n + 1, m + 1, a, p, h1, h2 => by
    unfold parRowsF
    split
    · rename_i hlt
      have hp : p ≠ [] := fun z => by subst z; simp at hlt
      have := rowLen_pos hw hp
      rw [parRowsF_fuel hw n m _ _ (by rw [List.length_drop]; omega) (by rw [List.length_drop]; omega)]
    · rfl
theorem parRows_eq {w : Nat} (hw : 2 ≤ w) (a : Nat) (p : List Nat) : parRows w a p = if rowLen w p < p.length then (a, a + rowLen w p, true) :: parRows w (a + rowLen w p) (p.drop (rowLen w p)) else [(a, a + p.length, false)] := by
  unfold parRows
  cases hn : p.length with
  | zero =>
    have e : p = [] := List.length_eq_zero_iff.mp hn
    subst e
    unfold parRowsF
    rw [if_neg (by simp)]
    simp
  | succ n =>
    rw [parRowsF, hn]
    split
    · rename_i hlt
      have hp : p ≠ [] := fun z => by subst z; simp at hn
      have := rowLen_pos hw hp
      rw [parRowsF_fuel hw n _ _ _ (by rw [List.length_drop]; omega) (Nat.le_refl _)]
    · rfl
theorem parRows_ne (w a : Nat) (p : List Nat) : parRows w a p ≠ [] := by
  unfold parRows
  cases p.length <;> unfold parRowsF
  · simp
  · split <;> simp

def splitN (c : Nat) : List Nat → List (List Nat)
  | [] => [[]]
  | x :: xs => if x = c then [] :: splitN c xs else (match splitN c xs with
    | [] => [[x]]
    | p :: ps => (x :: p) :: ps)
theorem splitN_ne (c : Nat) (s : List Nat) : splitN c s ≠ [] := by
  cases s with
  | nil => simp [splitN]
  | cons x xs =>
    unfold splitN
    split
    · simp
    · split <;> simp
/-- where each part begins and ends -/
def parasF : Nat → List (List Nat) → List (Nat × Nat)
  | _, [] => []
  | a, p :: ps => (a, a + p.length) :: parasF (a + p.length + 1) ps
def paras (t : List Nat) : List (Nat × Nat) := parasF 0 (splitN 10 t)
def rowsF (w : Nat) : Nat → List (List Nat) → List RowT
  | _, [] => []
  | a, p :: ps => parRows w a p ++ rowsF w (a + p.length + 1) ps
def rowsOf (w : Nat) (t : List Nat) : List RowT := rowsF w 0 (splitN 10 t)
def joinN (c : Nat) : List (List Nat) → List Nat
  | [] => []
  | [p] => p
  | p :: q :: r => p ++ c :: joinN c (q :: r)
theorem joinN_split (c : Nat) : ∀ s : List Nat, joinN c (splitN c s) = s
  | [] => rfl
  | x :: xs => by
    have ih := joinN_split c xs
    unfold splitN
    split
    · rename_i h
      cases e : splitN c xs with
      | nil => exact absurd e (splitN_ne c xs)
      | cons p ps =>
        rw [e] at ih
        show [] ++ c :: joinN c (p :: ps) = x :: xs
        rw [ih, h]
        rfl
    · cases e : splitN c xs with
      | nil => exact absurd e (splitN_ne c xs)
      | cons p ps =>
        rw [e] at ih
        cases ps with
        | nil =>
          show x :: p = x :: xs
          rw [show p = xs from ih]
        | cons q r =>
          show (x :: p) ++ c :: joinN c (q :: r) = x :: xs
          rw [List.cons_append, show p ++ c :: joinN c (q :: r) = xs from ih]
/-- the parts stand in the text -/
theorem parts_at (c : Nat) : ∀ (ps : List (List Nat)) (a : Nat) (t : List Nat), t.drop a = joinN c ps → a ≤ t.length → ps ≠ [] → ∀ p q r, ps = p ++ q :: r → ∃ b, b + q.length ≤ t.length ∧ (t.drop b).take q.length = q ∧ b = a + (p.map fun x => x.length + 1).sum
  | [], _, _, _, _, h, _, _, _, _ => absurd rfl h
  | x :: xs, a, t, hd, ha, _, [], q, r, e => by
    obtain ⟨rfl, rfl⟩ := List.cons.inj e
    refine ⟨a, ?_, ?_, by simp⟩
    · have h1 : (t.drop a).length = (joinN c (x :: xs)).length := by rw [hd]
      rw [List.length_drop] at h1
      cases xs with
      | nil => have : joinN c [x] = x := rfl; rw [this] at h1; omega
      | cons y ys =>
        have : joinN c (x :: y :: ys) = x ++ c :: joinN c (y :: ys) := rfl
        rw [this, List.length_append] at h1; omega
    · rw [hd]
      cases xs with
      | nil => exact List.take_length
      | cons y ys => exact List.take_left
  | x :: xs, a, t, hd, ha, _, y :: p, q, r, e => by
    obtain ⟨rfl, rfl⟩ := List.cons.inj e
    cases hx : (p ++ q :: r) with
    | nil => simp at hx
    | cons z zs =>
      have e1 : p.append (q :: r) = z :: zs := hx
      rw [e1] at hd
      have h1 : joinN c (x :: z :: zs) = x ++ c :: joinN c (z :: zs) := rfl
      rw [h1] at hd
      have h2 : t.drop (a + x.length + 1) = joinN c (z :: zs) := by
        rw [show a + x.length + 1 = a + (x.length + 1) by omega, ← List.drop_drop, hd]
        rw [show x ++ c :: joinN c (z :: zs) = (x ++ [c]) ++ joinN c (z :: zs) by simp]
        rw [show x.length + 1 = (x ++ [c]).length by simp]
        exact List.drop_left
      have h3 : a + x.length + 1 ≤ t.length := by
        have h4 : (t.drop a).length = (x ++ c :: joinN c (z :: zs)).length := by rw [hd]
        rw [List.length_drop, List.length_append, List.length_cons] at h4
        omega
      obtain ⟨b, h4, h5, h6⟩ := parts_at c (p ++ q :: r) (a + x.length + 1) t (by rw [hx]; exact h2) h3 (by simp) p q r rfl
      refine ⟨b, h4, h5, ?_⟩
      rw [h6, List.map_cons, List.sum_cons]
      omega
end CR

end

section
namespace CR
/-- the part of a text between two places -/
def seg (t : List Nat) (a l : Nat) : List Nat := (t.drop a).take (l - a)
theorem seg_len {t : List Nat} {a l : Nat} (h : l ≤ t.length) : (seg t a l).length = l - a := by
  unfold seg
  rw [List.length_take, List.length_drop]
  omega
theorem seg_get {t : List Nat} {a l i : Nat} (h : l ≤ t.length) (hi : a + i < l) : (seg t a l).getD i 0 = t.getD (a + i) 0 := by
  unfold seg
  rw [List.getD_eq_getElem?_getD, List.getD_eq_getElem?_getD, List.getElem?_take_of_lt (by omega), List.getElem?_drop]
theorem seg_drop {t : List Nat} {a l i : Nat} : (seg t a l).drop i = seg t (a + i) l := by
  unfold seg
  rw [List.drop_take, List.drop_drop]
  congr 1
  omega
theorem seg_cons {t : List Nat} {a l : Nat} (h : a < l) (hl : l ≤ t.length) : seg t a l = t.getD a 0 :: seg t (a + 1) l := by
  unfold seg
  rw [List.drop_eq_getElem_cons (by omega), show l - a = (l - (a + 1)) + 1 by omega, List.take_succ_cons, List.getD_eq_getElem?_getD, List.getElem?_eq_getElem (by omega)]
  rfl
theorem seg_nil {t : List Nat} {a l : Nat} (h : l ≤ a) : seg t a l = [] := by
  unfold seg
  rw [show l - a = 0 by omega]
  rfl
theorem seg_all {t : List Nat} : seg t 0 t.length = t := by
  unfold seg
  rw [List.drop_zero, Nat.sub_zero, List.take_length]
theorem fit_step {t : List Nat} {e l r : Nat} (h : e < l) (hl : l ≤ t.length) : fitG r (seg t e l) = if wd (t.getD e 0) ≤ r then fitG (r - wd (t.getD e 0)) (seg t (e + 1) l) + 1 else 0 := by
  rw [seg_cons h hl]
  rfl
theorem fit_end {t : List Nat} {e l r : Nat} (h : l ≤ e) : fitG r (seg t e l) = 0 := by
  rw [seg_nil h]
  rfl
theorem blank_step {t : List Nat} {e l : Nat} (h : e < l) (hl : l ≤ t.length) : blanks (seg t e l) = if t.getD e 0 = 32 then blanks (seg t (e + 1) l) + 1 else 0 := by
  rw [seg_cons h hl]
  rfl
theorem blank_end {t : List Nat} {e l : Nat} (h : l ≤ e) : blanks (seg t e l) = 0 := by
  rw [seg_nil h]
  rfl
theorem rowE_eq {w : Nat} {t : List Nat} {a l : Nat} : rowE w (seg t a l) = fitG w (seg t a l) + blanks (seg t (a + fitG w (seg t a l)) l) := by
  unfold rowE
  rw [seg_drop]
theorem cut_step {t : List Nat} {a l n : Nat} (h : l ≤ t.length) (hn : a + n < l) : cutB (seg t a l) (n + 1) = if t.getD (a + n) 0 = 32 then n + 1 else cutB (seg t a l) n := by
  rw [cutB, seg_get h hn]
theorem parRows_seg {w : Nat} (hw : 2 ≤ w) {t : List Nat} {a l : Nat} (h : l ≤ t.length) (ha : a ≤ l) : parRows w a (seg t a l) = if a + rowLen w (seg t a l) < l then (a, a + rowLen w (seg t a l), true) :: parRows w (a + rowLen w (seg t a l)) (seg t (a + rowLen w (seg t a l)) l) else [(a, l, false)] := by
  rw [parRows_eq hw, seg_len h, seg_drop]
  by_cases c : a + rowLen w (seg t a l) < l
  · rw [if_pos c, if_pos (by omega)]
  · rw [if_neg c, if_neg (by omega)]
    rw [show a + (l - a) = l by omega]
theorem rowLen_seg {w : Nat} (hw : 2 ≤ w) {t : List Nat} {a l : Nat} (h : l ≤ t.length) (ha : a < l) : 1 ≤ rowLen w (seg t a l) := rowLen_pos hw (by
  rw [seg_cons ha h]
  simp)
theorem parRows_len {w : Nat} (hw : 2 ≤ w) {t : List Nat} {l : Nat} (h : l ≤ t.length) : ∀ (n a : Nat), l - a ≤ n → a ≤ l → (parRows w a (seg t a l)).length ≤ l - a + 1
  | n, a, hn, ha => by
    rw [parRows_seg hw h ha]
    by_cases c : a + rowLen w (seg t a l) < l
    · rw [if_pos c]
      have h1 := rowLen_seg hw (t := t) (a := a) (l := l) h (by omega)
      cases n with
      | zero => omega
      | succ n =>
        have := parRows_len hw h n (a + rowLen w (seg t a l)) (by omega) (by omega)
        rw [List.length_cons]
        omega
    · rw [if_neg c]
      simp
theorem parRowsN {w : Nat} (hw : 2 ≤ w) {t : List Nat} {a l : Nat} (h : l ≤ t.length) (ha : a ≤ l) : (parRows w a (seg t a l)).length ≤ l - a + 1 := parRows_len hw h (l - a) a (Nat.le_refl _) ha
/-- the parts of a text are its segments -/
theorem parts_seg (c : Nat) (t : List Nat) {q : List Nat} {pre post : List (List Nat)} (e : splitN c t = pre ++ q :: post) : (pre.map fun x => x.length + 1).sum + q.length ≤ t.length ∧ seg t (pre.map fun x => x.length + 1).sum ((pre.map fun x => x.length + 1).sum + q.length) = q := by
  obtain ⟨b, h1, h2, h3⟩ := parts_at c (splitN c t) 0 t (by rw [List.drop_zero, joinN_split]) (Nat.zero_le _) (splitN_ne c t) pre q post e
  rw [Nat.zero_add] at h3
  subst h3
  refine ⟨h1, ?_⟩
  unfold seg
  rw [show (pre.map fun x => x.length + 1).sum + q.length - (pre.map fun x => x.length + 1).sum = q.length by omega]
  exact h2
theorem rowsF_append (w : Nat) : ∀ (a : Nat) (ps qs : List (List Nat)), rowsF w a (ps ++ qs) = rowsF w a ps ++ rowsF w (a + (ps.map fun x => x.length + 1).sum) qs
  | a, [], qs => by simp [rowsF]
  | a, p :: ps, qs => by
    rw [List.cons_append, rowsF, rowsF, rowsF_append w, List.append_assoc, List.map_cons, List.sum_cons]
    congr 3
    omega
theorem parasF_append : ∀ (a : Nat) (ps qs : List (List Nat)), parasF a (ps ++ qs) = parasF a ps ++ parasF (a + (ps.map fun x => x.length + 1).sum) qs
  | a, [], qs => by simp [parasF]
  | a, p :: ps, qs => by
    rw [List.cons_append, parasF, parasF, parasF_append, List.cons_append, List.map_cons, List.sum_cons]
    congr 3
    omega
end CR
namespace CR
def offs : Nat → List (List Nat) → List (Nat × List Nat)
  | _, [] => []
  | a, p :: ps => (a, p) :: offs (a + p.length + 1) ps
theorem offs_paras : ∀ (a : Nat) (ps : List (List Nat)), parasF a ps = (offs a ps).map fun x => (x.1, x.1 + x.2.length)
  | _, [] => rfl
  | a, p :: ps => by
    rw [parasF, offs, List.map_cons, offs_paras]
theorem offs_rows (w : Nat) : ∀ (a : Nat) (ps : List (List Nat)), rowsF w a ps = (offs a ps).flatMap fun x => parRows w x.1 x.2
  | _, [] => rfl
  | a, p :: ps => by
    rw [rowsF, offs, List.flatMap_cons, offs_rows]
theorem offs_snd : ∀ (a : Nat) (ps : List (List Nat)), (offs a ps).map (fun x => x.2) = ps
  | _, [] => rfl
  | a, p :: ps => by
    rw [offs, List.map_cons, offs_snd]
theorem offs_mem : ∀ (a : Nat) (ps : List (List Nat)) (x : Nat × List Nat), x ∈ offs a ps → ∃ pre post, ps = pre ++ x.2 :: post ∧ x.1 = a + (pre.map fun x => x.length + 1).sum
  | _, [], x, h => by cases h
  | a, p :: ps, x, h => by
    rw [offs, List.mem_cons] at h
    rcases h with h | h
    · subst h
      exact ⟨[], ps, rfl, by simp⟩
    · obtain ⟨pre, post, h1, h2⟩ := offs_mem _ ps x h
      refine ⟨p :: pre, post, by rw [h1]; rfl, ?_⟩
      rw [h2, List.map_cons, List.sum_cons]
      omega
theorem offs_seg {t : List Nat} {x : Nat × List Nat} (h : x ∈ offs 0 (splitN 10 t)) : x.1 + x.2.length ≤ t.length ∧ seg t x.1 (x.1 + x.2.length) = x.2 := by
  obtain ⟨pre, post, h1, h2⟩ := offs_mem _ _ _ h
  have := parts_seg 10 t h1
  rw [Nat.zero_add] at h2
  rw [← h2] at this
  exact this
theorem join_len (c : Nat) : ∀ ps : List (List Nat), ps ≠ [] → (ps.map fun x => x.length + 1).sum = (joinN c ps).length + 1
  | [], h => absurd rfl h
  | [p], _ => by simp [joinN]
  | p :: q :: r, _ => by
    have := join_len c (q :: r) (by simp)
    rw [List.map_cons, List.sum_cons, this]
    show _ = (p ++ c :: joinN c (q :: r)).length + 1
    rw [List.length_append, List.length_cons]
    omega
theorem offs_sum (t : List Nat) : ((offs 0 (splitN 10 t)).map fun x => x.2.length + 1).sum = t.length + 1 := by
  have h := join_len 10 (splitN 10 t) (splitN_ne 10 t)
  rw [joinN_split] at h
  rw [← h]
  conv => rhs; rw [← offs_snd 0 (splitN 10 t)]
  rw [List.map_map]
  rfl
theorem flat_le {α β : Type} {f : α → List β} {g : α → Nat} : ∀ (xs : List α), (∀ x ∈ xs, (f x).length ≤ g x) → (xs.flatMap f).length ≤ (xs.map g).sum
  | [], _ => Nat.le_refl _
  | x :: xs, h => by
    rw [List.flatMap_cons, List.length_append, List.map_cons, List.sum_cons]
    have h1 := h x List.mem_cons_self
    have h2 := flat_le xs fun y hy => h y (List.mem_cons_of_mem _ hy)
    omega
theorem len_le_sum {α : Type} {g : α → Nat} : ∀ (xs : List α), (∀ x ∈ xs, 1 ≤ g x) → xs.length ≤ (xs.map g).sum
  | [], _ => Nat.le_refl _
  | x :: xs, h => by
    rw [List.length_cons, List.map_cons, List.sum_cons]
    have h1 := h x List.mem_cons_self
    have h2 := len_le_sum xs fun y hy => h y (List.mem_cons_of_mem _ hy)
    omega
theorem rowsOf_offs (w : Nat) (t : List Nat) : rowsOf w t = (offs 0 (splitN 10 t)).flatMap fun x => parRows w x.1 x.2 := offs_rows w 0 _
/-- a prefix of the parts: rows, places -/
theorem offs_pre {w : Nat} (hw : 2 ≤ w) {t : List Nat} {pre post : List (Nat × List Nat)} (h : offs 0 (splitN 10 t) = pre ++ post) : (pre.flatMap fun x => parRows w x.1 x.2).length ≤ (pre.map fun x => x.2.length + 1).sum := by
  refine flat_le pre fun x hx => ?_
  obtain ⟨h1, h2⟩ := offs_seg (t := t) (x := x) (by rw [h]; simp [hx])
  have := parRowsN hw (t := t) (a := x.1) (l := x.1 + x.2.length) h1 (by omega)
  rw [h2] at this
  omega
theorem rowsOf_len {w : Nat} (hw : 2 ≤ w) (t : List Nat) : (rowsOf w t).length ≤ t.length + 1 := by
  rw [rowsOf_offs, ← offs_sum t]
  exact offs_pre hw (t := t) (post := []) (by simp)
theorem rowsOf_ne (w : Nat) (t : List Nat) : rowsOf w t ≠ [] := by
  unfold rowsOf
  cases h : splitN 10 t with
  | nil => exact absurd h (splitN_ne 10 t)
  | cons p ps =>
    rw [rowsF]
    have := parRows_ne w 0 p
    cases e : parRows w 0 p with
    | nil => exact absurd e this
    | cons r rs => simp
theorem parRows_in {w : Nat} (hw : 2 ≤ w) {t : List Nat} {l : Nat} (h : l ≤ t.length) : ∀ (n a : Nat), l - a ≤ n → a ≤ l → ∀ r ∈ parRows w a (seg t a l), a ≤ r.1 ∧ r.1 ≤ r.2.1 ∧ r.2.1 ≤ l
  | n, a, hn, ha, r, hr => by
    rw [parRows_seg hw h ha] at hr
    by_cases c : a + rowLen w (seg t a l) < l
    · rw [if_pos c] at hr
      have h1 := rowLen_seg hw (t := t) (a := a) (l := l) h (by omega)
      rcases List.mem_cons.mp hr with e | hr
      · subst e
        exact ⟨by dsimp only; omega, by dsimp only; omega, by dsimp only; omega⟩
      · cases n with
        | zero => omega
        | succ n =>
          obtain ⟨h2, h3, h4⟩ := parRows_in hw h n (a + rowLen w (seg t a l)) (by omega) (by omega) r hr
          exact ⟨by omega, h3, h4⟩
    · rw [if_neg c] at hr
      have e := List.mem_singleton.mp hr
      subst e
      exact ⟨Nat.le_refl _, ha, Nat.le_refl _⟩
theorem rowsOf_in {w : Nat} (hw : 2 ≤ w) {t : List Nat} {r : RowT} (h : r ∈ rowsOf w t) : r.1 ≤ r.2.1 ∧ r.2.1 ≤ t.length := by
  rw [rowsOf_offs, List.mem_flatMap] at h
  obtain ⟨x, hx, hr⟩ := h
  obtain ⟨h1, h2⟩ := offs_seg hx
  rw [← h2] at hr
  obtain ⟨h3, h4, h5⟩ := parRows_in hw h1 _ x.1 (Nat.le_refl _) (by omega) r hr
  exact ⟨h4, by omega⟩
theorem range_split {n y : Nat} {pre post : List Nat} (h : List.range n = pre ++ y :: post) : y = pre.length ∧ y < n := by
  have h1 : (List.range n)[pre.length]? = some y := by
    rw [h, List.getElem?_append_right (Nat.le_refl _), Nat.sub_self]
    rfl
  have h2 := (List.getElem?_eq_some_iff.mp h1)
  obtain ⟨h3, h4⟩ := h2
  rw [List.length_range] at h3
  rw [List.getElem_range] at h4
  exact ⟨h4.symm, by omega⟩
end CR

end

section
namespace CR
def cutF (w : Nat) : Nat → List Nat → List (List Nat)
  | 0, p => [p]
  | n + 1, p => if rowLen w p < p.length then p.take (rowLen w p) :: cutF w n (p.drop (rowLen w p)) else [p]
def cutT (w : Nat) (p : List Nat) : List (List Nat) := cutF w p.length p
theorem cutF_fuel {w : Nat} (hw : 2 ≤ w) : ∀ (n m : Nat) (p : List Nat), p.length ≤ n → p.length ≤ m → cutF w n p = cutF w m p
  | 0, 0, _, _, _ => rfl
  | 0, m + 1, p, h, _ => by
    have e : p = [] := List.length_eq_zero_iff.mp (by omega)
    subst e
    unfold cutF
    rw [if_neg (by simp)]
  | n + 1, 0, p, _, h => by
    have e : p = [] := List.length_eq_zero_iff.mp (by omega)
    subst e
    unfold cutF
    rw [if_neg (by simp)]
  | n + 1, m + 1, p, h1, h2 => by
    unfold cutF
    split
    · rename_i hlt
      have hp : p ≠ [] := fun z => by subst z; simp at hlt
      have := rowLen_pos hw hp
      rw [cutF_fuel hw n m _ (by rw [List.length_drop]; omega) (by rw [List.length_drop]; omega)]
    · rfl
theorem cutT_eq {w : Nat} (hw : 2 ≤ w) (p : List Nat) : cutT w p = if rowLen w p < p.length then p.take (rowLen w p) :: cutT w (p.drop (rowLen w p)) else [p] := by
  unfold cutT
  cases hn : p.length with
  | zero =>
    have e : p = [] := List.length_eq_zero_iff.mp hn
    subst e
    unfold cutF
    rw [if_neg (by simp)]
  | succ n =>
    rw [cutF, hn]
    split
    · rename_i hlt
      have hp : p ≠ [] := fun z => by subst z; simp at hn
      have := rowLen_pos hw hp
      rw [cutF_fuel hw n _ _ (by rw [List.length_drop]; omega) (Nat.le_refl _)]
    · rfl
theorem cutF_ne (w : Nat) (n : Nat) (p : List Nat) : cutF w n p ≠ [] := by
  cases n <;> unfold cutF
  · simp
  · split <;> simp
def toRows : Nat → List (List Nat) → List RowT
  | _, [] => []
  | a, [x] => [(a, a + x.length, false)]
  | a, x :: y :: r => (a, a + x.length, true) :: toRows (a + x.length) (y :: r)
theorem toRows_cut (w : Nat) : ∀ (n a : Nat) (p : List Nat), parRowsF w n a p = toRows a (cutF w n p)
  | 0, _, _ => rfl
  | n + 1, a, p => by
    unfold parRowsF cutF
    split
    · rename_i h
      rw [toRows_cut w n]
      cases e : cutF w n (p.drop (rowLen w p)) with
      | nil => exact absurd e (cutF_ne _ _ _)
      | cons y r =>
        show _ = (a, a + (p.take (rowLen w p)).length, true) :: toRows (a + (p.take (rowLen w p)).length) (y :: r)
        rw [List.length_take, Nat.min_eq_left (Nat.le_of_lt h)]
    · rfl
theorem parRows_cut (w a : Nat) (p : List Nat) : parRows w a p = toRows a (cutT w p) := toRows_cut w _ a p
theorem cutF_sum (w : Nat) : ∀ (n : Nat) (p : List Nat), ((cutF w n p).map List.length).sum = p.length
  | 0, p => by simp [cutF]
  | n + 1, p => by
    unfold cutF
    split
    · rename_i h
      rw [List.map_cons, List.sum_cons, cutF_sum w n, List.length_take, List.length_drop]
      omega
    · simp
theorem cutT_sum (w : Nat) (p : List Nat) : ((cutT w p).map List.length).sum = p.length := cutF_sum w _ p
theorem cutT_len {w : Nat} (hw : 2 ≤ w) (p : List Nat) : (cutT w p).length ≤ p.length + 1 := by
  have h1 : (toRows 0 (cutT w p)).length = (cutT w p).length := by
    have : ∀ (xs : List (List Nat)) (a : Nat), (toRows a xs).length = xs.length := fun xs => by
      induction xs with
      | nil => intro a; rfl
      | cons x r ih =>
        intro a
        cases r with
        | nil => rfl
        | cons y r =>
          rw [toRows, List.length_cons, ih]
          rfl
    exact this _ _
  rw [← h1, ← parRows_cut]
  have := parRowsN hw (t := p) (a := 0) (l := p.length) (Nat.le_refl _) (Nat.zero_le _)
  rw [seg_all] at this
  omega
/-- the rows by their numbers -/
theorem toRows_at : ∀ (xs : List (List Nat)) (a : Nat), toRows a xs = (List.range xs.length).map fun k => (a + ((xs.take k).map List.length).sum, a + ((xs.take k).map List.length).sum + (xs.getD k []).length, decide (k + 1 < xs.length))
  | [], _ => rfl
  | [x], a => by simp [toRows]
  | x :: y :: r, a => by
    rw [toRows, toRows_at (y :: r), List.length_cons (a := x), List.range_succ_eq_map, List.map_cons, List.map_map]
    have cc : ∀ {u v : RowT} {us vs : List RowT}, u = v → us = vs → u :: us = v :: vs := fun h1 h2 => by rw [h1, h2]
    refine cc (by simp) ?_
    · apply List.map_congr_left
      intro k _
      simp only [Function.comp, List.take_succ_cons, List.map_cons, List.sum_cons, List.getD_cons_succ, List.length_cons]
      refine Prod.ext (by dsimp only; omega) (Prod.ext (by dsimp only; omega) ?_)
      dsimp only
      exact decide_eq_decide.mpr (by omega)

theorem blanks_all : ∀ {l : List Nat}, (∀ x ∈ l, x = 32) → blanks l = l.length
  | [], _ => rfl
  | x :: l, h => by
    unfold blanks
    rw [if_pos (h x List.mem_cons_self), blanks_all fun y hy => h y (List.mem_cons_of_mem _ hy), List.length_cons]
theorem getD_mem_drop {s : List Nat} {n : Nat} (h : ∀ i, n ≤ i → i < s.length → s.getD i 0 = 32) : ∀ x ∈ s.drop n, x = 32 := by
  intro x hx
  obtain ⟨i, hi⟩ := List.mem_iff_getElem?.mp hx
  rw [List.getElem?_drop] at hi
  have hlt : n + i < s.length := (List.getElem?_eq_some_iff.mp hi).1
  have := h (n + i) (by omega) hlt
  rw [List.getD_eq_getElem?_getD, hi] at this
  exact this
def rlen (s : List Nat) : Nat := s.length - (s.reverse.takeWhile (· == 32)).length
theorem takeWhile_all {α : Type} {p : α → Bool} : ∀ (l : List α) (i : Nat), i < (l.takeWhile p).length → ∃ x, l[i]? = some x ∧ p x = true
  | [], i, h => by simp at h
  | x :: l, i, h => by
    rw [List.takeWhile_cons] at h
    cases hp : p x with
    | false => rw [hp] at h; simp at h
    | true =>
      rw [hp] at h
      cases i with
      | zero => exact ⟨x, rfl, hp⟩
      | succ i =>
        obtain ⟨y, h1, h2⟩ := takeWhile_all (p := p) l i (by simpa using h)
        exact ⟨y, by simpa using h1, h2⟩
theorem takeWhile_ge {α : Type} {p : α → Bool} : ∀ (l : List α) (n : Nat), n ≤ l.length → (∀ i x, i < n → l[i]? = some x → p x = true) → n ≤ (l.takeWhile p).length
  | _, 0, _, _ => Nat.zero_le _
  | [], n + 1, h, _ => by simp at h
  | x :: l, n + 1, h, hh => by
    have hp : p x = true := hh 0 x (by omega) rfl
    rw [List.takeWhile_cons, hp]
    have := takeWhile_ge (p := p) l n (by simpa using h) fun i y hi hy => hh (i + 1) y (by omega) (by simpa using hy)
    simp
    omega
/-- behind the stripped part all is blank -/
theorem rlen_blank {s : List Nat} : ∀ i, rlen s ≤ i → i < s.length → s.getD i 0 = 32 := by
  intro i h1 h2
  unfold rlen at h1
  have hk : (s.reverse.takeWhile (· == 32)).length ≤ s.length := by
    have := (List.takeWhile_sublist (p := (· == 32)) (l := s.reverse)).length_le
    rwa [List.length_reverse] at this
  obtain ⟨x, hx, hp⟩ := takeWhile_all (p := (· == 32)) s.reverse (s.length - 1 - i) (by omega)
  rw [List.getElem?_reverse (by omega)] at hx
  rw [show s.length - 1 - (s.length - 1 - i) = i by omega] at hx
  rw [List.getD_eq_getElem?_getD, hx]
  exact beq_iff_eq.mp hp
/-- what is blank to the end is stripped -/
theorem rlen_le {s : List Nat} {n : Nat} (hn : n ≤ s.length) (h : ∀ i, n ≤ i → i < s.length → s.getD i 0 = 32) : rlen s ≤ n := by
  unfold rlen
  have := takeWhile_ge (p := (· == 32)) s.reverse (s.length - n) (by rw [List.length_reverse]; omega) fun i x hi hx => by
    rw [List.getElem?_reverse (by omega)] at hx
    have := h (s.length - 1 - i) (by omega) (by omega)
    rw [List.getD_eq_getElem?_getD, hx] at this
    exact beq_iff_eq.mpr this
  omega
theorem rlen_len (s : List Nat) : rlen s ≤ s.length := Nat.sub_le _ _
/-- a paragraph that fits, but for its last blanks, is one row -/
theorem one_row {w : Nat} {p : List Nat} (h : wideN (p.take (rlen p)) ≤ w) : rowLen w p = p.length := by
  have h1 : rlen p ≤ fitG w p := (fitG_iff w p _ (rlen_len p)).mpr h
  have h2 : rowE w p = p.length := by
    unfold rowE
    rw [blanks_all (getD_mem_drop fun i hi hl => rlen_blank i (by omega) hl), List.length_drop]
    have := fitG_le w p
    omega
  unfold rowLen
  rw [if_pos h2]
theorem one_row2 {w : Nat} {p : List Nat} (h : wideN p ≤ w) : rowLen w p = p.length := one_row (Nat.le_trans (wideN_take_le p _) h)
theorem blanks_at : ∀ {l : List Nat} {i : Nat}, i < blanks l → l.getD i 0 = 32
  | [], _, h => by cases h
  | x :: l, i, h => by
    unfold blanks at h
    split at h
    · rename_i e
      cases i with
      | zero => exact e
      | succ i => exact blanks_at (l := l) (by omega)
    · cases h
theorem getD_drop {s : List Nat} {n i : Nat} : (s.drop n).getD i 0 = s.getD (n + i) 0 := by
  rw [List.getD_eq_getElem?_getD, List.getD_eq_getElem?_getD, List.getElem?_drop]
/-- a row but for its last blanks fits -/
theorem row_fits {w : Nat} {p : List Nat} {m : Nat} (h : m ≤ rowE w p) : wideN ((p.take m).take (rlen (p.take m))) ≤ w := by
  have hl := rowE_le w p
  have h1 : rlen (p.take m) ≤ fitG w p := by
    by_cases c : m ≤ fitG w p
    · have := rlen_len (p.take m)
      rw [List.length_take] at this
      omega
    · refine rlen_le (by rw [List.length_take]; omega) fun i h1 h2 => ?_
      rw [List.length_take] at h2
      have : i - fitG w p < blanks (p.drop (fitG w p)) := by unfold rowE at h; omega
      have := blanks_at this
      rw [getD_drop, show fitG w p + (i - fitG w p) = i by omega] at this
      rw [List.getD_eq_getElem?_getD, List.getElem?_take_of_lt (by omega), ← List.getD_eq_getElem?_getD]
      exact this
  rw [List.take_take]
  have := (fitG_iff w p (min (rlen (p.take m)) m) (by have := fitG_le w p; omega)).mp (by omega)
  exact this
theorem rowLen_rowE (w : Nat) (p : List Nat) : rowLen w p ≤ rowE w p ∨ rowLen w p = p.length ∧ rowE w p = p.length := by
  unfold rowLen
  split
  · rename_i h
    exact .inr ⟨rfl, h⟩
  · have := cutB_le p (rowE w p)
    left
    split <;> omega
theorem cutF_fits {w : Nat} (hw : 2 ≤ w) : ∀ (n : Nat) (p : List Nat), p.length ≤ n → ∀ x ∈ cutF w n p, wideN (x.take (rlen x)) ≤ w
  | 0, p, hn, x, hx => by
    have e : p = [] := List.length_eq_zero_iff.mp (by omega)
    subst e
    have e := List.mem_singleton.mp hx
    subst e
    simp [wideN]
  | n + 1, p, hn, x, hx => by
    unfold cutF at hx
    have hr := rowLen_rowE w p
    split at hx
    · rename_i h
      have hp : p ≠ [] := fun z => by subst z; simp at h
      have hpos := rowLen_pos hw hp
      rcases List.mem_cons.mp hx with e | hx
      · subst e
        exact row_fits (by omega)
      · exact cutF_fits hw n _ (by rw [List.length_drop]; omega) x hx
    · rename_i h
      have e := List.mem_singleton.mp hx
      subst e
      have hl := rowLen_le w x
      have he := rowE_le w x
      have := row_fits (w := w) (p := x) (m := x.length) (by omega)
      rwa [List.take_length] at this
theorem cutB_last {t : List Nat} {i : Nat} : ∀ (n : Nat), i < n → t.getD i 0 = 32 → (∀ j, i < j → j < n → t.getD j 0 ≠ 32) → cutB t n = i + 1
  | 0, h, _, _ => by omega
  | n + 1, h, h1, h2 => by
    unfold cutB
    by_cases c : i = n
    · subst c
      rw [if_pos h1]
    · rw [if_neg (h2 n (by omega) (by omega))]
      exact cutB_last n (by omega) h1 fun j a b => h2 j a (by omega)
theorem cutB_none {t : List Nat} : ∀ (n : Nat), (∀ j, j < n → t.getD j 0 ≠ 32) → cutB t n = 0
  | 0, _ => rfl
  | n + 1, h => by
    unfold cutB
    rw [if_neg (h n (by omega))]
    exact cutB_none n fun j hj => h j (by omega)
end CR

end

section
namespace CR
theorem seg_take {t : List Nat} {a l m : Nat} (h : a + m ≤ l) : (seg t a l).take m = seg t a (a + m) := by
  unfold seg
  rw [List.take_take]
  congr 1
  omega
theorem parRowsF_texts {w : Nat} {t : List Nat} {l : Nat} (hl : l ≤ t.length) : ∀ (n a : Nat), a ≤ l → (parRowsF w n a (seg t a l)).map (fun r => seg t r.1 r.2.1) = cutF w n (seg t a l)
  | 0, a, ha => by
    unfold parRowsF cutF
    rw [seg_len hl, show a + (l - a) = l by omega]
    rfl
  | n + 1, a, ha => by
    unfold parRowsF cutF
    rw [seg_len hl]
    by_cases c : rowLen w (seg t a l) < l - a
    · rw [if_pos c, if_pos c, List.map_cons, seg_drop, parRowsF_texts hl n _ (by omega), seg_take (by omega)]
    · rw [if_neg c, if_neg c, show a + (l - a) = l by omega]
      rfl
theorem parRows_texts {w : Nat} {t : List Nat} {a l : Nat} (hl : l ≤ t.length) (ha : a ≤ l) : (parRows w a (seg t a l)).map (fun r => seg t r.1 r.2.1) = cutT w (seg t a l) := parRowsF_texts hl _ a ha
theorem rows_fit {w : Nat} (hw : 2 ≤ w) {t : List Nat} {r : RowT} (h : r ∈ rowsOf w t) : wideN ((seg t r.1 r.2.1).take (rlen (seg t r.1 r.2.1))) ≤ w := by
  rw [rowsOf_offs, List.mem_flatMap] at h
  obtain ⟨x, hx, hr⟩ := h
  obtain ⟨h1, h2⟩ := offs_seg hx
  have h3 := parRows_texts (w := w) h1 (show x.1 ≤ x.1 + x.2.length by omega)
  rw [h2] at h3
  have h4 : seg t r.1 r.2.1 ∈ cutT w x.2 := by
    rw [← h3]
    exact List.mem_map.mpr ⟨r, hr, rfl⟩
  exact cutF_fits hw _ _ (Nat.le_refl _) _ h4
def glue : List (List Nat × Bool) → List Nat
  | [] => []
  | [x] => x.1
  | x :: y :: r => x.1 ++ (if x.2 = true then [] else [10]) ++ glue (y :: r)
theorem glue_range : ∀ (L : List (List Nat × Bool)), ((List.range L.length).flatMap fun k => (L.getD k ([], false)).1 ++ (if (L.getD k ([], false)).2 = true ∨ k + 1 = L.length then [] else [10])) = glue L
  | [] => rfl
  | [x] => by simp [glue]
  | x :: y :: r => by
    have ih := glue_range (y :: r)
    rw [List.length_cons (a := x), List.range_succ_eq_map, List.flatMap_cons, List.flatMap_map]
    show (x.1 ++ (if x.2 = true ∨ 0 + 1 = (y :: r).length + 1 then [] else [10])) ++ _ = x.1 ++ (if x.2 = true then [] else [10]) ++ glue (y :: r)
    rw [← ih]
    congr 1
    · congr 1
      have : ¬ (0 + 1 = (y :: r).length + 1) := by simp
      simp only [this, or_false]
    · congr 1
      funext k
      show ((y :: r).getD k ([], false)).1 ++ (if ((y :: r).getD k ([], false)).2 = true ∨ k.succ + 1 = (y :: r).length + 1 then [] else [10]) = _
      congr 2
      simp only [Nat.succ_eq_add_one, Nat.add_right_cancel_iff]
/-- a paragraph's rows, by their texts -/
def softs : List (List Nat) → List (List Nat × Bool)
  | [] => []
  | [x] => [(x, false)]
  | x :: y :: r => (x, true) :: softs (y :: r)
theorem glue_softs : ∀ (xs : List (List Nat)) (rest : List (List Nat × Bool)), xs ≠ [] → glue (softs xs ++ rest) = xs.flatten ++ (if rest = [] then [] else 10 :: glue rest)
  | [], _, h => absurd rfl h
  | [x], [], _ => by simp [softs, glue]
  | [x], y :: r, _ => by simp [softs, glue]
  | x :: y :: r, rest, _ => by
    have ih := glue_softs (y :: r) rest (by simp)
    have hne : softs (y :: r) ++ rest ≠ [] := by
      cases r <;> simp [softs]
    rw [softs, List.cons_append]
    cases e : softs (y :: r) ++ rest with
    | nil => exact absurd e hne
    | cons z zs =>
      rw [e] at ih
      show x ++ (if true = true then [] else [10]) ++ glue (z :: zs) = _
      rw [ih, if_pos rfl, List.append_nil, List.flatten_cons (l := x), List.append_assoc]
theorem toRows_softs : ∀ (xs : List (List Nat)) (a : Nat) (f : RowT → List Nat), (toRows a xs).map f = xs → (toRows a xs).map (fun r => (f r, r.2.2)) = softs xs
  | [], _, _, _ => rfl
  | [x], a, f, h => by
    have := (List.cons.inj h).1
    show [(f _, false)] = [(x, false)]
    rw [this]
  | x :: y :: r, a, f, h => by
    rw [toRows, List.map_cons] at h ⊢
    obtain ⟨h1, h2⟩ := List.cons.inj h
    rw [toRows_softs (y :: r) _ f h2, h1]
    rfl
theorem cutF_flat (w : Nat) : ∀ (n : Nat) (p : List Nat), (cutF w n p).flatten = p
  | 0, p => by simp [cutF]
  | n + 1, p => by
    unfold cutF
    split
    · rw [List.flatten_cons, cutF_flat w n, List.take_append_drop]
    · simp
theorem glue_rows {w : Nat} {t : List Nat} : ∀ (a : Nat) (ps : List (List Nat)), ps ≠ [] → (∀ x ∈ offs a ps, x.1 + x.2.length ≤ t.length ∧ seg t x.1 (x.1 + x.2.length) = x.2) → glue ((rowsF w a ps).map fun r => (seg t r.1 r.2.1, r.2.2)) = joinN 10 ps
  | _, [], h, _ => absurd rfl h
  | a, p :: ps, _, h => by
    obtain ⟨h1, h2⟩ := h (a, p) (by rw [offs]; exact List.mem_cons_self)
    have h3 := parRows_texts (w := w) h1 (show a ≤ a + p.length by omega)
    dsimp only at h2
    rw [h2, parRows_cut] at h3
    rw [rowsF, List.map_append, parRows_cut, toRows_softs _ _ _ h3, glue_softs (cutT w p) _ (cutF_ne w _ p)]
    have h4 : (cutT w p).flatten = p := cutF_flat w _ p
    rw [h4]
    cases ps with
    | nil =>
      rw [rowsF, List.map_nil, if_pos rfl, List.append_nil]
      rfl
    | cons q r =>
      have hne : (rowsF w (a + p.length + 1) (q :: r)).map (fun r => (seg t r.1 r.2.1, r.2.2)) ≠ [] := by
        rw [rowsF]
        have := parRows_ne w (a + p.length + 1) q
        simp [this]
      rw [if_neg hne, glue_rows _ (q :: r) (by simp) fun x hx => h x (by rw [offs]; exact List.mem_cons_of_mem _ hx)]
      rfl
/-- the piece of that number -/
def pieceR (t : List Nat) (R : List RowT) (k : Nat) : List Nat := seg t (R.getD k (0, 0, false)).1 (R.getD k (0, 0, false)).2.1 ++ (if (R.getD k (0, 0, false)).2.2 = true ∨ k + 1 = R.length then [] else [10])
theorem rows_glue {w : Nat} (t : List Nat) : (List.range (rowsOf w t).length).flatMap (pieceR t (rowsOf w t)) = t := by
  have h1 := glue_rows (w := w) (t := t) 0 (splitN 10 t) (splitN_ne 10 t) fun x hx => offs_seg hx
  rw [joinN_split] at h1
  have h2 := glue_range ((rowsOf w t).map fun r => (seg t r.1 r.2.1, r.2.2))
  rw [List.length_map] at h2
  have h3 : glue ((rowsOf w t).map fun r => (seg t r.1 r.2.1, r.2.2)) = t := h1
  rw [h3] at h2
  have key : ∀ k ∈ List.range (rowsOf w t).length, pieceR t (rowsOf w t) k = (((rowsOf w t).map fun r => (seg t r.1 r.2.1, r.2.2)).getD k ([], false)).1 ++ (if (((rowsOf w t).map fun r => (seg t r.1 r.2.1, r.2.2)).getD k ([], false)).2 = true ∨ k + 1 = (rowsOf w t).length then [] else [10]) := fun k hk => by
    have hk := List.mem_range.mp hk
    unfold pieceR
    rw [List.getD_eq_getElem?_getD, List.getD_eq_getElem?_getD, List.getElem?_map, List.getElem?_eq_getElem hk]
    rfl
  have cong : ∀ (xs : List Nat) (f g : Nat → List Nat), (∀ k ∈ xs, f k = g k) → xs.flatMap f = xs.flatMap g := fun xs f g hh => by
    induction xs with
    | nil => rfl
    | cons x r ih => rw [List.flatMap_cons, List.flatMap_cons, hh x List.mem_cons_self, ih fun k hk => hh k (List.mem_cons_of_mem _ hk)]
  exact (cong _ _ _ key).trans h2
end CR

end

section
namespace CR
def wt (c : Nat) : Nat := if 65 ≤ c ∧ c ≤ 90 then 3 else if c = 32 then 2 else 1
def wgt (t : List Nat) : Nat := (t.map wt).sum
theorem wt_pos (c : Nat) : 1 ≤ wt c := by
  unfold wt
  split
  · omega
  · split <;> omega
theorem wgt_cons (c : Nat) (t : List Nat) : wgt (c :: t) = wt c + wgt t := by unfold wgt; rw [List.map_cons, List.sum_cons]
theorem wgt_append (s t : List Nat) : wgt (s ++ t) = wgt s + wgt t := by unfold wgt; rw [List.map_append, List.sum_append]
theorem wgt_split (t : List Nat) (n : Nat) : wgt t = wgt (t.take n) + wgt (t.drop n) := by rw [← wgt_append, List.take_append_drop]
theorem wgt_seg (t : List Nat) (a l : Nat) : wgt (seg t a l) ≤ wgt t := by
  unfold seg
  have h1 := wgt_split t a
  have h2 := wgt_split (t.drop a) (l - a)
  omega
theorem wgt_len (t : List Nat) : t.length ≤ wgt t := by
  induction t with
  | nil => exact Nat.zero_le _
  | cons c t ih =>
    rw [wgt_cons, List.length_cons]
    have := wt_pos c
    omega
/-- less by one, if the first sign is a great letter -/
def phi : List Nat → Nat
  | [] => 0
  | c :: t => wt c + wgt t - (if 65 ≤ c ∧ c ≤ 90 then 1 else 0)
theorem phi_cons (c : Nat) (t : List Nat) : phi (c :: t) = wt c + wgt t - (if 65 ≤ c ∧ c ≤ 90 then 1 else 0) := rfl
theorem phi_le (p : List Nat) : phi p ≤ wgt p := by
  cases p with
  | nil => exact Nat.zero_le _
  | cons c t =>
    rw [wgt_cons]
    exact Nat.sub_le _ _
theorem phi_step {w : Nat} (hw : 2 ≤ w) {p : List Nat} (h : rowLen w p < p.length) : phi (p.drop (rowLen w p)) + 2 ≤ phi p := by
  have hp : p ≠ [] := fun z => by subst z; simp at h
  have hpos := rowLen_pos hw hp
  cases p with
  | nil => exact absurd rfl hp
  | cons c t =>
    have hsp := wgt_split (c :: t) (rowLen w (c :: t))
    have hph := phi_le ((c :: t).drop (rowLen w (c :: t)))
    obtain ⟨m, hm⟩ : ∃ m, rowLen w (c :: t) = m + 1 := ⟨rowLen w (c :: t) - 1, by omega⟩
    rw [hm, List.take_succ_cons, wgt_cons, wgt_cons] at hsp
    rw [hm] at hph h ⊢
    rw [List.length_cons] at h
    have hlen := wgt_len (t.take m)
    rw [List.length_take] at hlen
    rw [phi_cons c t]
    by_cases g : 65 ≤ c ∧ c ≤ 90
    · have hc : wt c = 3 := by unfold wt; rw [if_pos g]
      rw [if_pos g]
      omega
    · rw [if_neg g]
      by_cases hm1 : 1 ≤ m
      · have := wt_pos c
        omega
      · have hm0 : m = 0 := by omega
        subst hm0
        by_cases hb : c = 32
        · have hc : wt c = 2 := by unfold wt; rw [if_neg g, if_pos hb]
          omega
        · have hc : wt c = 1 := by unfold wt; rw [if_neg g, if_neg hb]
          -- the next sign is a great letter
          cases t with
          | nil => simp at h
          | cons d u =>
            have hfp := fitG_pos hw (t := c :: d :: u) (by simp)
            have hE := rowLen_rowE w (c :: d :: u)
            have hr1 : rowE w (c :: d :: u) = 1 := by
              have h2 := hm
              unfold rowLen at h2
              split at h2
              · rename_i e
                rw [List.length_cons] at h2
                simp at h2
              · have hcut : cutB (c :: d :: u) (rowE w (c :: d :: u)) ≠ 1 := by
                  intro z
                  have aux : ∀ n, cutB (c :: d :: u) n = 1 → c = 32 := fun n => by
                    induction n with
                    | zero => intro z; cases z
                    | succ n ih =>
                      intro z
                      unfold cutB at z
                      split at z
                      · rename_i e
                        have : n = 0 := by omega
                        subst this
                        exact e
                      · exact ih z
                  exact hb (aux _ z)
                split at h2
                · exact absurd (by omega) hcut
                · omega
            have hf1 : fitG w (c :: d :: u) = 1 := by
              unfold rowE at hr1
              omega
            have hg : wd c + wd d > w := by
              have : ¬ wideN ((c :: d :: u).take 2) ≤ w := fun z => by
                have := (fitG_iff w (c :: d :: u) 2 (by simp)).mpr z
                omega
              simp only [List.take_succ_cons, List.take_zero, wideN_cons, wideN_nil] at this
              omega
            have hwc : wd c = 1 := by unfold wd; rw [if_neg g]
            have hd : 65 ≤ d ∧ d ≤ 90 := by
              by_cases hd : 65 ≤ d ∧ d ≤ 90
              · exact hd
              · have : wd d = 1 := by unfold wd; rw [if_neg hd]
                omega
            show phi (d :: u) + 2 ≤ wt c + wgt (d :: u) - 0
            rw [phi_cons, if_pos hd, wgt_cons]
            have : wt d = 3 := by unfold wt; rw [if_pos hd]
            omega
end CR

end

section
namespace CR
def rowHit (o : Nat) (b : Bool) (r : RowT) : Bool := decide (o < r.2.1) || (decide (o = r.2.1) && (!r.2.2 || b))
def rowAt (o : Nat) (b : Bool) : List RowT → Nat
  | [] => 0
  | [_] => 0
  | r :: s :: t => if rowHit o b r = true then 0 else rowAt o b (s :: t) + 1
theorem rowAt_lt (o : Nat) (b : Bool) : ∀ {R : List RowT}, R ≠ [] → rowAt o b R < R.length
  | [], h => absurd rfl h
  | [_], _ => Nat.zero_lt_one
  | r :: s :: t, _ => by
    have := rowAt_lt o b (R := s :: t) (by simp)
    unfold rowAt
    split
    · simp
    · simp only [List.length_cons] at this ⊢
      omega
theorem rowAt_hit {o : Nat} {b : Bool} {y : RowT} {post : List RowT} : ∀ {pre : List RowT}, (∀ x ∈ pre, rowHit o b x = false) → rowHit o b y = true → rowAt o b (pre ++ y :: post) = pre.length
  | [], _, h => by
    cases post with
    | nil => rfl
    | cons z post => show (if rowHit o b y = true then 0 else _) = 0; rw [if_pos h]
  | x :: pre, hp, h => by
    have h1 := hp x List.mem_cons_self
    have ih := rowAt_hit (post := post) (pre := pre) (fun z hz => hp z (List.mem_cons_of_mem _ hz)) h
    cases e : pre ++ y :: post with
    | nil => simp at e
    | cons z rest =>
      rw [List.cons_append, e]
      show (if rowHit o b x = true then 0 else rowAt o b (z :: rest) + 1) = _
      rw [if_neg (by rw [h1]; decide), ← e, ih]
      rfl
theorem rowAt_none {o : Nat} {b : Bool} : ∀ {R : List RowT}, (∀ x ∈ R, rowHit o b x = false) → rowAt o b R = R.length - 1
  | [], _ => rfl
  | [_], _ => rfl
  | r :: s :: t, h => by
    have ih := rowAt_none (o := o) (b := b) (R := s :: t) (fun z hz => h z (List.mem_cons_of_mem _ hz))
    show (if rowHit o b r = true then 0 else rowAt o b (s :: t) + 1) = _
    rw [if_neg (by rw [h r List.mem_cons_self]; decide), ih]
    rfl
/-- rows one behind the other from a on, to the end n -/
inductive Ch : Nat → List RowT → Nat → Prop
  | last {a n : Nat} (h : a ≤ n) : Ch a [(a, n, false)] n
  | soft {a b n : Nat} {R : List RowT} (h : a < b) (c : Ch b R n) : Ch a ((a, b, true) :: R) n
  | hard {a b n : Nat} {R : List RowT} (h : a ≤ b) (c : Ch (b + 1) R n) : Ch a ((a, b, false) :: R) n
theorem Ch.ne {a n : Nat} {R : List RowT} (h : Ch a R n) : R ≠ [] := by cases h <;> simp
theorem Ch.le {a n : Nat} {R : List RowT} (h : Ch a R n) : a ≤ n := by
  induction h with
  | last h => exact h
  | soft h _ ih => omega
  | hard h _ ih => omega
theorem Ch.from {a n : Nat} {R : List RowT} (h : Ch a R n) : ∀ r ∈ R, a ≤ r.1 ∧ r.1 ≤ r.2.1 ∧ r.2.1 ≤ n := by
  induction h with
  | last h =>
    intro r hr
    rw [List.mem_singleton] at hr
    subst hr
    exact ⟨Nat.le_refl _, h, Nat.le_refl _⟩
  | soft h c ih =>
    intro r hr
    have := c.le
    rcases List.mem_cons.mp hr with e | e
    · subst e; simp only; omega
    · have := ih r e; omega
  | hard h c ih =>
    intro r hr
    have := c.le
    rcases List.mem_cons.mp hr with e | e
    · subst e; simp only; omega
    · have := ih r e; omega
theorem parRows_end {w : Nat} (hw : 2 ≤ w) : ∀ (n a : Nat) (p : List Nat), p.length ≤ n → ∃ R' : List RowT, ∃ s, parRows w a p = R' ++ [(s, a + p.length, false)] ∧ ∀ (R : List RowT) (m : Nat), (Ch (a + p.length + 1) R m → Ch a (parRows w a p ++ R) m) ∧ Ch a (parRows w a p) (a + p.length)
  | 0, a, p, h => by
    have e : p = [] := List.length_eq_zero_iff.mp (Nat.le_zero.mp h)
    subst e
    rw [parRows_eq hw, if_neg (by simp)]
    refine ⟨[], a, rfl, fun R m => ⟨fun c => .hard (Nat.le_refl _) c, .last (Nat.le_refl _)⟩⟩
  | n + 1, a, p, h => by
    rw [parRows_eq hw]
    by_cases hl : rowLen w p < p.length
    · rw [if_pos hl]
      have hp : p ≠ [] := fun z => by subst z; simp at hl
      have h1 := rowLen_pos hw hp
      obtain ⟨R', s, e1, e2⟩ := parRows_end hw n (a + rowLen w p) (p.drop (rowLen w p)) (by rw [List.length_drop]; omega)
      rw [List.length_drop, show a + rowLen w p + (p.length - rowLen w p) = a + p.length by omega] at e1 e2
      refine ⟨(a, a + rowLen w p, true) :: R', s, by rw [e1]; rfl, fun R m => ⟨fun c => ?_, ?_⟩⟩
      · exact .soft (by omega) ((e2 R m).1 c)
      · exact .soft (by omega) (e2 [] 0).2
    · rw [if_neg hl]
      exact ⟨[], a, rfl, fun R m => ⟨fun c => .hard (by omega) c, .last (by omega)⟩⟩
theorem rowsF_ch {w : Nat} (hw : 2 ≤ w) : ∀ (a : Nat) (ps : List (List Nat)), ps ≠ [] → Ch a (rowsF w a ps) (a + (joinN 10 ps).length)
  | a, [], h => absurd rfl h
  | a, [p], _ => by
    obtain ⟨_, _, _, e⟩ := parRows_end hw p.length a p (Nat.le_refl _)
    have := (e [] 0).2
    show Ch a (parRows w a p ++ []) _
    rw [List.append_nil]
    exact this
  | a, p :: q :: r, _ => by
    obtain ⟨_, _, _, e⟩ := parRows_end hw p.length a p (Nat.le_refl _)
    have ih := rowsF_ch hw (a + p.length + 1) (q :: r) (by simp)
    have := (e _ _).1 ih
    show Ch a (parRows w a p ++ rowsF w (a + p.length + 1) (q :: r)) _
    have e2 : (joinN 10 (p :: q :: r)).length = p.length + 1 + (joinN 10 (q :: r)).length := by
      show (p ++ 10 :: joinN 10 (q :: r)).length = _
      simp
      omega
    rw [e2, ← Nat.add_assoc, ← Nat.add_assoc]
    exact this
theorem rows_ch {w : Nat} (hw : 2 ≤ w) (t : List Nat) : Ch 0 (rowsOf w t) t.length := by
  have := rowsF_ch hw 0 (splitN 10 t) (splitN_ne 10 t)
  rwa [joinN_split, Nat.zero_add] at this
/-- the rows that an offset touches -/
def ins (o : Nat) (R : List RowT) : List Nat := (List.range R.length).filter fun k => decide ((R.getD k (0, 0, false)).1 ≤ o) && decide (o ≤ (R.getD k (0, 0, false)).2.1)
theorem ins_cons (o : Nat) (r : RowT) (R : List RowT) : ins o (r :: R) = (if r.1 ≤ o ∧ o ≤ r.2.1 then [0] else []) ++ (ins o R).map Nat.succ := by
  unfold ins
  rw [List.length_cons, List.range_succ_eq_map, List.filter_cons, List.filter_map]
  have e : (fun k => decide (((r :: R).getD k (0, 0, false)).1 ≤ o) && decide (o ≤ ((r :: R).getD k (0, 0, false)).2.1)) ∘ Nat.succ = fun k => decide ((R.getD k (0, 0, false)).1 ≤ o) && decide (o ≤ (R.getD k (0, 0, false)).2.1) := rfl
  rw [e]
  by_cases h : r.1 ≤ o ∧ o ≤ r.2.1
  · rw [if_pos h, if_pos (by simpa using h)]
    rfl
  · rw [if_neg h, if_neg (by simpa using h)]
    rfl
theorem ins_none {o a n : Nat} {R : List RowT} (h : Ch a R n) (ho : o < a) : ins o R = [] := by
  unfold ins
  rw [List.filter_eq_nil_iff]
  intro k hk
  have hk := List.mem_range.mp hk
  have := h.from (R.getD k (0, 0, false)) (by rw [List.getD_eq_getElem?_getD, List.getElem?_eq_getElem hk]; exact List.getElem_mem hk)
  simp only [Bool.and_eq_true, decide_eq_true_eq, not_and]
  omega
theorem rowAt_cons {o : Nat} {b : Bool} {r : RowT} {R : List RowT} (h : R ≠ []) : rowAt o b (r :: R) = if rowHit o b r = true then 0 else rowAt o b R + 1 := by
  cases R with
  | nil => exact absurd rfl h
  | cons s t => rfl
theorem ins_ends {a n o : Nat} {R : List RowT} (h : Ch a R n) (h1 : a ≤ o) (h2 : o ≤ n) : (∃ l, ins o R = rowAt o true R :: l) ∧ ∃ l, ins o R = l ++ [rowAt o false R] := by
  induction h with
  | last h =>
    rw [ins_cons, if_pos ⟨h1, h2⟩]
    exact ⟨⟨[], rfl⟩, [], rfl⟩
  | @soft a b n R h c ih =>
    rw [ins_cons, rowAt_cons c.ne, rowAt_cons c.ne]
    unfold rowHit
    by_cases h3 : o < b
    · rw [ins_none c h3, if_pos ⟨h1, by simp only; omega⟩, decide_eq_true h3]
      exact ⟨⟨[], rfl⟩, [], rfl⟩
    · obtain ⟨⟨l1, e1⟩, l2, e2⟩ := ih (by omega) h2
      rw [decide_eq_false h3]
      by_cases h4 : o = b
      · rw [if_pos ⟨h1, by simp only; omega⟩, decide_eq_true h4]
        refine ⟨⟨_, rfl⟩, 0 :: l2.map Nat.succ, ?_⟩
        rw [e2, List.map_append]
        rfl
      · rw [if_neg (by simp only; omega), decide_eq_false h4]
        refine ⟨⟨l1.map Nat.succ, ?_⟩, l2.map Nat.succ, ?_⟩
        · rw [e1]; rfl
        · rw [e2, List.map_append]; rfl
  | @hard a b n R h c ih =>
    rw [ins_cons, rowAt_cons c.ne, rowAt_cons c.ne]
    unfold rowHit
    by_cases h3 : o ≤ b
    · rw [ins_none c (by omega), if_pos ⟨h1, by simp only; omega⟩]
      have e : (decide (o < b) || (decide (o = b) && (!false || true))) = true := by simp; omega
      have e' : (decide (o < b) || (decide (o = b) && (!false || false))) = true := by simp; omega
      rw [e, e']
      exact ⟨⟨[], rfl⟩, [], rfl⟩
    · obtain ⟨⟨l1, e1⟩, l2, e2⟩ := ih (by omega) h2
      have e1' : ¬ o < b := by omega
      have e2' : ¬ o = b := by omega
      rw [if_neg (by simp only; omega), decide_eq_false e1', decide_eq_false e2']
      refine ⟨⟨l1.map Nat.succ, ?_⟩, l2.map Nat.succ, ?_⟩
      · rw [e1]; rfl
      · rw [e2, List.map_append]; rfl
/-- the row at which an offset stands holds it -/
theorem rowAt_in {a n o : Nat} {R : List RowT} (h : Ch a R n) (b : Bool) (h1 : a ≤ o) (h2 : o ≤ n) : (R.getD (rowAt o b R) (0, 0, false)).1 ≤ o ∧ o ≤ (R.getD (rowAt o b R) (0, 0, false)).2.1 := by
  have hm : rowAt o b R ∈ ins o R := by
    obtain ⟨⟨l1, e1⟩, l2, e2⟩ := ins_ends h h1 h2
    cases b with
    | true => rw [e1]; exact List.mem_cons_self
    | false => rw [e2]; simp
  have := (List.mem_filter.mp hm).2
  simpa using this

def nearF (d : Nat → Nat) : List Nat → Nat → Nat
  | [], f => f
  | o :: os, f => nearF d os (if d o < d f then o else f)
theorem nearF_append (d : Nat → Nat) : ∀ (xs ys : List Nat) (f : Nat), nearF d (xs ++ ys) f = nearF d ys (nearF d xs f)
  | [], _, _ => rfl
  | _ :: xs, ys, f => nearF_append d xs ys _
theorem nearF_spec (d : Nat → Nat) (a : Nat) : ∀ (n : Nat), let m := nearF d (List.range' a (n + 1)) a; a ≤ m ∧ m ≤ a + n ∧ (∀ o, a ≤ o → o ≤ a + n → d m ≤ d o) ∧ ∀ o, a ≤ o → o < m → d m < d o
  | 0 => by
    have e : nearF d (List.range' a (0 + 1)) a = a := by
      show (if d a < d a then a else a) = a
      rw [if_neg (Nat.lt_irrefl _)]
    simp only [e]
    refine ⟨Nat.le_refl _, Nat.le_refl _, fun o h1 h2 => ?_, fun o h1 h2 => by omega⟩
    rw [show o = a by omega]
    exact Nat.le_refl _
  | n + 1 => by
    obtain ⟨h1, h2, h3, h4⟩ := nearF_spec d a n
    have e : nearF d (List.range' a (n + 1 + 1)) a = if d (a + (n + 1)) < d (nearF d (List.range' a (n + 1)) a) then a + (n + 1) else nearF d (List.range' a (n + 1)) a := by
      rw [show List.range' a (n + 1 + 1) = List.range' a (n + 1) ++ [a + (n + 1)] by rw [List.range'_concat]; simp, nearF_append]
      rfl
    simp only [e]
    by_cases h : d (a + (n + 1)) < d (nearF d (List.range' a (n + 1)) a)
    · rw [if_pos h]
      refine ⟨by omega, by omega, fun o o1 o2 => ?_, fun o o1 o2 => ?_⟩
      · by_cases z : o = a + (n + 1)
        · rw [z]; exact Nat.le_refl _
        · have := h3 o o1 (by omega); omega
      · have := h3 o o1 (by omega); omega
    · rw [if_neg h]
      refine ⟨h1, by omega, fun o o1 o2 => ?_, h4⟩
      by_cases z : o = a + (n + 1)
      · rw [z]; omega
      · exact h3 o o1 (by omega)
theorem nearF_one {d : Nat → Nat} {a n m : Nat} (h1 : a ≤ m) (h2 : m ≤ a + n) (h3 : ∀ o, a ≤ o → o ≤ a + n → d m ≤ d o) (h4 : ∀ o, a ≤ o → o < m → d m < d o) : nearF d (List.range' a (n + 1)) a = m := by
  obtain ⟨k1, k2, k3, k4⟩ := nearF_spec d a n
  rcases Nat.lt_trichotomy (nearF d (List.range' a (n + 1)) a) m with h | h | h
  · have := h4 _ k1 h; have := k3 m h1 h2; omega
  · exact h
  · have := k4 _ h1 h; have := h3 _ k1 k2; omega
/-- how far an offset is from a column -/
def dst (t : List Nat) (a c o : Nat) : Nat := ((wideN (seg t a o) : Int) - (c : Int)).natAbs
def nearO (t : List Nat) (r : RowT) (c : Nat) : Nat := nearF (dst t r.1 c) (List.range' r.1 (r.2.1 - r.1 + 1)) r.1
theorem nearO_in (t : List Nat) {r : RowT} (c : Nat) (h : r.1 ≤ r.2.1) : r.1 ≤ nearO t r c ∧ nearO t r c ≤ r.2.1 := by
  obtain ⟨h1, h2, _, _⟩ := nearF_spec (dst t r.1 c) r.1 (r.2.1 - r.1)
  unfold nearO
  omega
theorem seg_wide {t : List Nat} {a o p : Nat} (h1 : a ≤ o) (h2 : o < p) (h3 : p ≤ t.length) : wideN (seg t a o) < wideN (seg t a p) := by
  have e : seg t a p = seg t a o ++ seg t o p := by
    have z := (List.take_append_drop (o - a) (seg t a p)).symm
    rw [seg_drop, show a + (o - a) = o by omega] at z
    have e2 : (seg t a p).take (o - a) = seg t a o := by
      unfold seg
      rw [List.take_take, show min (o - a) (p - a) = o - a by omega]
    rw [e2] at z
    exact z
  rw [e, wideN_append]
  have := (wideN_len (seg t o p)).1
  rw [seg_len h3] at this
  omega
/-- the column of an offset leads back to it -/
theorem nearO_back {t : List Nat} {r : RowT} {o : Nat} (h1 : r.1 ≤ o) (h2 : o ≤ r.2.1) (h3 : r.2.1 ≤ t.length) : nearO t r (wideN (seg t r.1 o)) = o := by
  unfold nearO
  refine nearF_one h1 (by omega) (fun p p1 p2 => ?_) (fun p p1 p2 => ?_)
  · unfold dst
    omega
  · have := seg_wide p1 p2 (Nat.le_trans h2 h3)
    unfold dst
    omega
def rowD0 (R : List RowT) (k : Nat) : RowT := R.getD k (0, 0, false)
def softEnd (R : List RowT) (k o : Nat) : Bool := (rowD0 R k).2.2 && decide (o = (rowD0 R k).2.1)
def colOf (t : List Nat) (r : RowT) (o : Nat) : Nat := wideN (seg t r.1 o)
theorem range_pre {n y : Nat} {pre post : List Nat} (h : List.range n = pre ++ y :: post) : pre = List.range y := by
  obtain ⟨h1, h2⟩ := range_split h
  have e := congrArg (List.take y) h
  rw [List.take_range, show min y n = y by omega] at e
  rw [e, h1, List.take_left' rfl]
end CR

end

section
namespace CR
structure Sh where
  now : List Nat
  width : Nat
  height : Nat
  caret : Nat
  back : Bool
  anchor : Nat
  wish : Option Nat
  first : Nat
  marks : List (List Nat × Nat)
def Sh.R (s : Sh) : List RowT := rowsOf s.width s.now
def Sh.row (s : Sh) : Nat := rowAt s.caret s.back s.R
def Sh.col (s : Sh) : Nat := colOf s.now (rowD0 s.R s.row) s.caret
def Sh.lo (s : Sh) : Nat := min s.caret s.anchor
def Sh.hi (s : Sh) : Nat := max s.caret s.anchor
def firstOf (f rows number height : Nat) : Nat :=
  let f1 := min f (rows - 1)
  let f2 := if number < f1 then number else f1
  if f2 + height ≤ number then number + 1 - height else f2
def Sh.scroll (s : Sh) : Sh := { s with first := firstOf s.first s.R.length s.row s.height }
def Sh.put0 (s : Sh) (o : Nat) (b ch : Bool) : Sh := { s with caret := o, back := b && softEnd s.R (rowAt o true s.R) o, anchor := if ch then s.anchor else o }
def Sh.put (s : Sh) (o : Nat) (b ch : Bool) : Sh := (s.put0 o b ch).scroll
def Sh.go (s : Sh) (o : Nat) : Sh := Sh.put { s with wish := none } o false false
def Sh.choose (s : Sh) (a c : Nat) : Sh := Sh.put { s with wish := none, anchor := a } c false true
/-- what must be true of a sheet -/
structure Sh.Ok (s : Sh) : Prop where
  len : s.now.length ≤ 2000
  w2 : 2 ≤ s.width
  w200 : s.width ≤ 200
  h1 : 1 ≤ s.height
  h100 : s.height ≤ 100
  car : s.caret ≤ s.now.length
  anc : s.anchor ≤ s.now.length
  wsh : ∀ w, s.wish = some w → w ≤ 100000
theorem Sh.Ok.rne {s : Sh} (h : s.Ok) : s.R ≠ [] := rowsOf_ne _ _
theorem Sh.Ok.rlen {s : Sh} (h : s.Ok) : 0 < s.R.length ∧ s.R.length ≤ 2001 := by
  have h1 := rowsOf_len h.w2 s.now
  have h2 := h.len
  have h3 := List.length_pos_iff.mpr h.rne
  unfold Sh.R at *
  omega
theorem Sh.Ok.row_lt {s : Sh} (h : s.Ok) : s.row < s.R.length := rowAt_lt _ _ h.rne
theorem rowD0_mem {R : List RowT} {k : Nat} (h : k < R.length) : rowD0 R k ∈ R := by
  unfold rowD0
  rw [List.getD_eq_getElem?_getD, List.getElem?_eq_getElem h]
  exact List.getElem_mem h
theorem rowD0_in {w : Nat} {t : List Nat} {k : Nat} (hw : 2 ≤ w) (h : k < (rowsOf w t).length) : (rowD0 (rowsOf w t) k).1 ≤ (rowD0 (rowsOf w t) k).2.1 ∧ (rowD0 (rowsOf w t) k).2.1 ≤ t.length := rowsOf_in hw (rowD0_mem h)
theorem Sh.Ok.put0 {s : Sh} (h : s.Ok) {o : Nat} (b ch : Bool) (ho : o ≤ s.now.length) : (s.put0 o b ch).Ok := by
  refine ⟨h.len, h.w2, h.w200, h.h1, h.h100, ho, ?_, h.wsh⟩
  show (if ch = true then s.anchor else o) ≤ s.now.length
  split
  · exact h.anc
  · exact ho
theorem Sh.Ok.scroll {s : Sh} (h : s.Ok) : s.scroll.Ok := ⟨h.len, h.w2, h.w200, h.h1, h.h100, h.car, h.anc, h.wsh⟩
theorem Sh.Ok.put {s : Sh} (h : s.Ok) {o : Nat} (b ch : Bool) (ho : o ≤ s.now.length) : (s.put o b ch).Ok := (h.put0 b ch ho).scroll
theorem Sh.Ok.nowish {s : Sh} (h : s.Ok) : Sh.Ok { s with wish := none } := ⟨h.len, h.w2, h.w200, h.h1, h.h100, h.car, h.anc, fun w e => by cases e⟩
theorem Sh.Ok.go {s : Sh} (h : s.Ok) {o : Nat} (ho : o ≤ s.now.length) : (s.go o).Ok := h.nowish.put _ _ ho
theorem Sh.Ok.choose {s : Sh} (h : s.Ok) {a c : Nat} (ha : a ≤ s.now.length) (hc : c ≤ s.now.length) : (s.choose a c).Ok := by
  have h2 : Sh.Ok { s with wish := none, anchor := a } := ⟨h.len, h.w2, h.w200, h.h1, h.h100, h.car, ha, fun w e => by cases e⟩
  exact h2.put _ _ hc
def isLet (c : Nat) : Bool := (decide (97 ≤ c) && decide (c ≤ 122)) || (decide (65 ≤ c) && decide (c ≤ 90)) || (decide (48 ≤ c) && decide (c ≤ 57))
def letAt (t : List Nat) (i : Nat) : Bool := decide (i < t.length) && isLet (t.getD i 0)
/-- so many places that are no letters, letters from a place on -/
def skipF (p : Nat → Bool) : Nat → Nat → Nat
  | 0, i => i
  | n + 1, i => if p i = true then skipF p n (i + 1) else i
def sk (p : Nat → Bool) (n i : Nat) : Nat := skipF p (n + 1 - i) i
theorem sk_yes {p : Nat → Bool} {n i : Nat} (h : i < n) (hp : p i = true) : sk p n i = sk p n (i + 1) := by
  unfold sk
  rw [show n + 1 - i = (n + 1 - (i + 1)) + 1 by omega]
  show (if p i = true then _ else i) = _
  rw [if_pos hp]
theorem sk_no {p : Nat → Bool} {n i : Nat} (hp : p i = false) : sk p n i = i := by
  unfold sk
  cases n + 1 - i with
  | zero => rfl
  | succ m => show (if p i = true then _ else i) = _; rw [if_neg (by rw [hp]; decide)]
def gapAt (t : List Nat) (k : Nat) : Bool := decide (k < t.length) && !letAt t k
def wordR (t : List Nat) (i : Nat) : Nat := sk (letAt t) t.length (sk (gapAt t) t.length i)
theorem sk_le {p : Nat → Bool} {n : Nat} (h : ∀ k, p k = true → k < n) : ∀ (m i : Nat), n - i ≤ m → i ≤ n → i ≤ sk p n i ∧ sk p n i ≤ n
  | 0, i, hm, hi => by
    have : p i = false := by
      cases e : p i with
      | false => rfl
      | true => have := h i e; omega
    rw [sk_no this]
    omega
  | m + 1, i, hm, hi => by
    cases e : p i with
    | false => rw [sk_no e]; omega
    | true =>
      have h1 := h i e
      rw [sk_yes h1 e]
      have := sk_le h m (i + 1) (by omega) (by omega)
      omega
theorem letAt_lt {t : List Nat} {k : Nat} (h : letAt t k = true) : k < t.length := by
  unfold letAt at h
  rw [Bool.and_eq_true] at h
  exact of_decide_eq_true h.1
theorem gapAt_lt {t : List Nat} {k : Nat} (h : gapAt t k = true) : k < t.length := by
  unfold gapAt at h
  rw [Bool.and_eq_true] at h
  exact of_decide_eq_true h.1
theorem wordR_le {t : List Nat} {i : Nat} (h : i ≤ t.length) : i ≤ wordR t i ∧ wordR t i ≤ t.length := by
  unfold wordR
  have h1 := sk_le (p := gapAt t) (fun k => gapAt_lt (t := t)) _ i (Nat.le_refl _) h
  have h2 := sk_le (p := letAt t) (fun k => letAt_lt (t := t)) _ (sk (gapAt t) t.length i) (Nat.le_refl _) h1.2
  omega
def backF (p : Nat → Bool) : Nat → Nat
  | 0 => 0
  | i + 1 => if p i = true then backF p i else i + 1
def wordL (t : List Nat) (i : Nat) : Nat := backF (letAt t) (backF (fun k => !letAt t k) i)
/-- the last line end ahead of a place, and one more; the first one from a place on, or the end -/
def parU (t : List Nat) : Nat → Nat
  | 0 => 0
  | i + 1 => if t[i]? = some 10 then i + 1 else parU t i
def parDF (t : List Nat) : Nat → Nat → Nat
  | 0, i => t.length
  | n + 1, i => if t[i]? = some 10 then i else parDF t n (i + 1)
def parD (t : List Nat) (i : Nat) : Nat := parDF t (t.length + 1 - i) i
theorem backF_le (p : Nat → Bool) : ∀ i, backF p i ≤ i
  | 0 => Nat.le_refl _
  | i + 1 => by
    unfold backF
    split
    · have := backF_le p i; omega
    · exact Nat.le_refl _
theorem wordL_le (t : List Nat) (i : Nat) : wordL t i ≤ i := Nat.le_trans (backF_le _ _) (backF_le _ _)
theorem parU_none {t : List Nat} : ∀ {j : Nat}, (∀ i, i < j → t[i]? ≠ some 10) → parU t j = 0
  | 0, _ => rfl
  | j + 1, h => by
    unfold parU
    rw [if_neg (h j (by omega))]
    exact parU_none fun i hi => h i (by omega)
theorem parU_at {t : List Nat} {k : Nat} (hk : t[k]? = some 10) : ∀ {j : Nat}, k < j → (∀ i, k < i → i < j → t[i]? ≠ some 10) → parU t j = k + 1
  | 0, h, _ => by omega
  | j + 1, h, hn => by
    unfold parU
    by_cases e : k = j
    · subst e; rw [if_pos hk]
    · rw [if_neg (hn j (by omega) (by omega))]
      exact parU_at hk (by omega) fun i h1 h2 => hn i h1 (by omega)
theorem parU_le (t : List Nat) : ∀ j, parU t j ≤ j
  | 0 => Nat.le_refl _
  | j + 1 => by
    unfold parU
    split
    · exact Nat.le_refl _
    · have := parU_le t j; omega
theorem parDF_none {t : List Nat} : ∀ {n i : Nat}, (∀ j, i ≤ j → t[j]? ≠ some 10) → parDF t n i = t.length
  | 0, _, _ => rfl
  | n + 1, i, h => by
    unfold parDF
    rw [if_neg (h i (Nat.le_refl _))]
    exact parDF_none fun j hj => h j (by omega)
theorem parDF_at {t : List Nat} {k : Nat} (hk : t[k]? = some 10) : ∀ {n i : Nat}, i ≤ k → k < i + n → (∀ j, i ≤ j → j < k → t[j]? ≠ some 10) → parDF t n i = k
  | 0, _, h1, h2, _ => by omega
  | n + 1, i, h1, h2, hn => by
    unfold parDF
    by_cases e : i = k
    · subst e; rw [if_pos hk]
    · rw [if_neg (hn i (Nat.le_refl _) (by omega))]
      exact parDF_at hk (by omega) (by omega) fun j h3 h4 => hn j (by omega) h4
theorem parD_none {t : List Nat} {i : Nat} (h : ∀ j, i ≤ j → t[j]? ≠ some 10) : parD t i = t.length := parDF_none h
theorem parD_at {t : List Nat} {i k : Nat} (hk : t[k]? = some 10) (h : i ≤ k) (hn : ∀ j, i ≤ j → j < k → t[j]? ≠ some 10) : parD t i = k := by
  have := (List.getElem?_eq_some_iff.mp hk).1
  exact parDF_at hk h (by omega) hn
theorem parD_le (t : List Nat) (i : Nat) : parD t i ≤ t.length := by
  have : ∀ n i, parDF t n i ≤ t.length := by
    intro n
    induction n with
    | zero => intro i; exact Nat.le_refl _
    | succ n ih =>
      intro i
      unfold parDF
      split
      · rename_i h
        exact Nat.le_of_lt (List.getElem?_eq_some_iff.mp h).1
      · exact ih _
  exact this _ _
inductive Mv where
  | left | right | wordleft | wordright | up | down | pageup | pagedown | home | end_ | top | bottom | paraup | paradown
  deriving DecidableEq
def Mv.vert : Mv → Bool
  | .up | .down | .pageup | .pagedown => true
  | _ => false
def Mv.many (h : Nat) : Mv → Int
  | .up => -1
  | .down => 1
  | .pageup => -(h : Int)
  | .pagedown => h
  | _ => 0
def flatG (t : List Nat) (c : Nat) : Mv → Nat
  | .left => c - 1
  | .right => min t.length (c + 1)
  | .wordleft => wordL t c
  | .wordright => wordR t c
  | .top => 0
  | .bottom => t.length
  | .paraup => parU t (c - 1)
  | _ => parD t (c + 1)
theorem flatG_le {t : List Nat} {c : Nat} (h : c ≤ t.length) (m : Mv) : flatG t c m ≤ t.length := by
  have h1 := wordL_le t c
  have h2 := (wordR_le h).2
  have h3 := parU_le t (c - 1)
  have h4 := parD_le t (c + 1)
  cases m <;> simp only [flatG] <;> omega
def Sh.rowsMove (s : Sh) (n : Int) (ch : Bool) : Sh :=
  let w := s.wish.getD s.col
  let g := (s.row : Int) + n
  let s1 := if g < 0 ∧ s.row = 0 then s.put 0 false ch
    else if (s.R.length : Int) ≤ g ∧ s.row + 1 = s.R.length then s.put s.now.length false ch
    else
      let k := (max 0 (min g ((s.R.length : Int) - 1))).toNat
      let o := nearO s.now (rowD0 s.R k) w
      s.put o (softEnd s.R k o) ch
  { s1 with wish := some w }
def Sh.move (s : Sh) (m : Mv) (ch : Bool) : Sh :=
  if m.vert = true then s.rowsMove (m.many s.height) ch
  else
    let s0 : Sh := { s with wish := none }
    if m = .home then s0.put (rowD0 s.R s.row).1 false ch
    else if m = .end_ then s0.put (rowD0 s.R s.row).2.1 true ch
    else if (m = .left ∨ m = .right) ∧ s.lo < s.hi ∧ ch = false then s0.put (if m = .left then s.lo else s.hi) false false
    else s0.put (flatG s.now s.caret m) false ch
def carry (first last many o : Nat) : Nat := if o ≤ first then o else if o < last then first + many else o - (last - first) + many
def Sh.between (s : Sh) (a b : Nat) (new : List Nat) : Sh := { s with now := s.now.take a ++ new ++ s.now.drop b, marks := s.marks.map fun m => (m.1, carry a b new.length m.2), wish := none }
def Sh.write (s : Sh) (new : List Nat) : Sh := (s.between s.lo s.hi new).put (s.lo + new.length) false false
def Sh.erase (s : Sh) (m : Mv) : Sh :=
  let s1 : Sh := if s.lo = s.hi then { s.move m true with first := s.first } else s
  (s1.between s1.lo s1.hi []).put s1.lo false false
def Sh.resize (s : Sh) (w h : Nat) : Sh :=
  let start := (rowD0 s.R s.first).1
  let R := rowsOf w s.now
  ({ s with width := w, height := h, wish := none, first := rowAt start false R, back := s.back && softEnd R (rowAt s.caret true R) s.caret } : Sh).scroll
def setMark (name : List Nat) (o : Nat) : List (List Nat × Nat) → List (List Nat × Nat)
  | [] => [(name, o)]
  | m :: r => if m.1 = name then (name, o) :: r else m :: setMark name o r
def Sh.mark (s : Sh) (name : List Nat) (o : Nat) : Sh := { s with marks := setMark name o s.marks }
def Sh.point (s : Sh) (row col : Nat) (ch : Bool) : Sh :=
  let k := min (s.first + row) (s.R.length - 1)
  let o := nearO s.now (rowD0 s.R k) col
  Sh.put { s with wish := none } o (softEnd s.R k o) ch
def Sh.new (t : List Nat) (w h : Nat) : Sh := ⟨t, w, h, 0, false, 0, none, 0, []⟩
theorem Sh.Ok.new {t : List Nat} {w h : Nat} (h1 : t.length ≤ 2000) (h2 : 2 ≤ w) (h3 : w ≤ 200) (h4 : 1 ≤ h) (h5 : h ≤ 100) : (Sh.new t w h).Ok := ⟨h1, h2, h3, h4, h5, Nat.zero_le _, Nat.zero_le _, fun w e => by cases e⟩
end CR

end

section
namespace CR
/-- rows one behind the other; none without signs behind a soft end -/
inductive Cs : Bool → Nat → List RowT → Nat → Prop
  | last {z : Bool} {a n : Nat} (h : a ≤ n) (hz : z = true → a < n) : Cs z a [(a, n, false)] n
  | soft {z : Bool} {a b n : Nat} {R : List RowT} (h : a < b) (c : Cs true b R n) : Cs z a ((a, b, true) :: R) n
  | hard {z : Bool} {a b n : Nat} {R : List RowT} (h : a ≤ b) (hz : z = true → a < b) (c : Cs false (b + 1) R n) : Cs z a ((a, b, false) :: R) n
theorem parRows_cs {w : Nat} (hw : 2 ≤ w) : ∀ (n a : Nat) (p : List Nat) (z : Bool), p.length ≤ n → (z = true → p ≠ []) → (∀ (R : List RowT) (m : Nat), Cs false (a + p.length + 1) R m → Cs z a (parRows w a p ++ R) m) ∧ Cs z a (parRows w a p) (a + p.length)
  | 0, a, p, z, h, hz => by
    have e : p = [] := List.length_eq_zero_iff.mp (Nat.le_zero.mp h)
    subst e
    rw [parRows_eq hw, if_neg (by simp)]
    have hz2 : z = true → a < a + ([] : List Nat).length := fun y => absurd rfl (hz y)
    exact ⟨fun R m c => .hard (Nat.le_refl _) hz2 c, .last (Nat.le_refl _) hz2⟩
  | n + 1, a, p, z, h, hz => by
    rw [parRows_eq hw]
    by_cases hl : rowLen w p < p.length
    · rw [if_pos hl]
      have hp : p ≠ [] := fun z => by subst z; simp at hl
      have h1 := rowLen_pos hw hp
      have hd : p.drop (rowLen w p) ≠ [] := List.length_pos_iff.mp (by rw [List.length_drop]; omega)
      obtain ⟨e1, e2⟩ := parRows_cs hw n (a + rowLen w p) (p.drop (rowLen w p)) true (by rw [List.length_drop]; omega) (fun _ => hd)
      rw [List.length_drop, show a + rowLen w p + (p.length - rowLen w p) = a + p.length by omega] at e1 e2
      exact ⟨fun R m c => .soft (by omega) (e1 R m c), .soft (by omega) e2⟩
    · rw [if_neg hl]
      have hz2 : z = true → a < a + p.length := fun y => by have := List.length_pos_iff.mpr (hz y); omega
      exact ⟨fun R m c => .hard (by omega) hz2 c, .last (by omega) hz2⟩
theorem rowsF_cs {w : Nat} (hw : 2 ≤ w) : ∀ (a : Nat) (ps : List (List Nat)), ps ≠ [] → Cs false a (rowsF w a ps) (a + (joinN 10 ps).length)
  | a, [], h => absurd rfl h
  | a, [p], _ => by
    have := (parRows_cs hw p.length a p false (Nat.le_refl _) (fun z => by cases z)).2
    show Cs false a (parRows w a p ++ []) _
    rw [List.append_nil]
    exact this
  | a, p :: q :: r, _ => by
    have e := (parRows_cs hw p.length a p false (Nat.le_refl _) (fun z => by cases z)).1
    have ih := rowsF_cs hw (a + p.length + 1) (q :: r) (by simp)
    have := e _ _ ih
    show Cs false a (parRows w a p ++ rowsF w (a + p.length + 1) (q :: r)) _
    have e2 : (joinN 10 (p :: q :: r)).length = p.length + 1 + (joinN 10 (q :: r)).length := by
      show (p ++ 10 :: joinN 10 (q :: r)).length = _
      simp
      omega
    rw [e2, ← Nat.add_assoc, ← Nat.add_assoc]
    exact this
theorem rows_cs {w : Nat} (hw : 2 ≤ w) (t : List Nat) : Cs false 0 (rowsOf w t) t.length := by
  have := rowsF_cs hw 0 (splitN 10 t) (splitN_ne 10 t)
  rwa [joinN_split, Nat.zero_add] at this
section
variable {z : Bool} {a n : Nat} {R : List RowT}
theorem Cs.ne (h : Cs z a R n) : R ≠ [] := by cases h <;> simp
theorem Cs.from (h : Cs z a R n) : ∀ r ∈ R, a ≤ r.1 ∧ r.1 ≤ r.2.1 ∧ r.2.1 ≤ n ∧ (r.2.2 = true → r.1 < r.2.1) ∧ (z = true → a < r.2.1) := by
  induction h with
  | last h hz =>
    intro r hr
    rw [List.mem_singleton] at hr
    subst hr
    exact ⟨Nat.le_refl _, h, Nat.le_refl _, fun z => (by cases z), hz⟩
  | @soft z a b n R h c ih =>
    intro r hr
    rcases List.mem_cons.mp hr with e | e
    · subst e
      obtain ⟨x, hx⟩ := List.exists_mem_of_ne_nil _ c.ne
      have := ih x hx
      exact ⟨Nat.le_refl _, Nat.le_of_lt h, by show b ≤ n; omega, fun _ => h, fun _ => h⟩
    · obtain ⟨h1, h2, h3, h4, h5⟩ := ih r e
      exact ⟨by omega, h2, h3, h4, fun _ => by have := h5 rfl; omega⟩
  | @hard z a b n R h hz c ih =>
    intro r hr
    rcases List.mem_cons.mp hr with e | e
    · subst e
      obtain ⟨x, hx⟩ := List.exists_mem_of_ne_nil _ c.ne
      have := ih x hx
      exact ⟨Nat.le_refl _, h, by show b ≤ n; omega, fun z => (by cases z), hz⟩
    · obtain ⟨h1, h2, h3, h4, h5⟩ := ih r e
      exact ⟨by omega, h2, h3, h4, fun _ => by omega⟩
theorem rowAt_single {o : Nat} {b : Bool} {r : RowT} : rowAt o b [r] = 0 := rfl
theorem rowD0_zero {r : RowT} : rowD0 (r :: R) 0 = r := rfl
theorem rowD0_succ {r : RowT} {k : Nat} : rowD0 (r :: R) (k + 1) = rowD0 R k := by
  unfold rowD0
  rw [List.getD_cons_succ]
theorem rowAt_head {o : Nat} {b : Bool} {r : RowT} (h : rowHit o b r = true) : rowAt o b (r :: R) = 0 := by
  cases R with
  | nil => rfl
  | cons s t => show (if rowHit o b r = true then 0 else _) = 0; rw [if_pos h]
theorem hit_no {o : Nat} {b s : Bool} {x e : Nat} (h : e < o ∨ (e ≤ o ∧ s = true ∧ b = false)) : rowHit o b (x, e, s) = false := by
  unfold rowHit
  rcases h with h | ⟨h, rfl, rfl⟩
  · rw [decide_eq_false (show ¬ o < e by omega), decide_eq_false (show ¬ o = e by omega)]
    rfl
  · rw [decide_eq_false (show ¬ o < e by omega)]
    simp
theorem hit_yes {o : Nat} {b s : Bool} {x e : Nat} (h : o < e ∨ (o = e ∧ (s = false ∨ b = true))) : rowHit o b (x, e, s) = true := by
  unfold rowHit
  rcases h with h | ⟨rfl, h⟩
  · rw [show decide (o < (x, e, s).2.1) = true from decide_eq_true h]
    rfl
  · rw [show decide (o = (x, o, s).2.1) = true from decide_eq_true rfl]
    rcases h with rfl | rfl <;> simp
/-- a row's beginning stands in it -/
theorem Cs.row_start (h : Cs z a R n) : ∀ k, k < R.length → rowAt (rowD0 R k).1 false R = k := by
  induction h with
  | last h hz => intro k hk; have : k = 0 := by simp at hk; exact hk
                 subst this; rfl
  | @soft z a b n R h c ih =>
    intro k hk
    cases k with
    | zero => exact rowAt_head (hit_yes (.inl h))
    | succ k =>
      have hk2 : k < R.length := by simpa using hk
      rw [rowD0_succ, rowAt_cons c.ne, ih k hk2]
      have := (c.from (rowD0 R k) (rowD0_mem hk2)).1
      rw [if_neg]
      rw [hit_no (.inr ⟨this, rfl, rfl⟩)]
      decide
  | @hard z a b n R h hz c ih =>
    intro k hk
    cases k with
    | zero => exact rowAt_head (hit_yes (by show a < b ∨ _; by_cases e : a = b; exact .inr ⟨e, .inl rfl⟩; exact .inl (by omega)))
    | succ k =>
      have hk2 : k < R.length := by simpa using hk
      rw [rowD0_succ, rowAt_cons c.ne, ih k hk2]
      have := (c.from (rowD0 R k) (rowD0_mem hk2)).1
      rw [if_neg]
      rw [hit_no (.inl (by omega))]
      decide
/-- a row's end stands in it, back or at a hard end -/
theorem Cs.row_end (h : Cs z a R n) : ∀ k bb, k < R.length → (bb = true ∨ (rowD0 R k).2.2 = false) → rowAt (rowD0 R k).2.1 bb R = k := by
  induction h with
  | last h hz => intro k bb hk _; have : k = 0 := by simp at hk; exact hk
                 subst this; rfl
  | @soft z a b n R h c ih =>
    intro k bb hk hb
    cases k with
    | zero => exact rowAt_head (hit_yes (.inr ⟨rfl, by rcases hb with e | e; exact .inr e; exact .inl e⟩))
    | succ k =>
      have hk2 : k < R.length := by simpa using hk
      rw [rowD0_succ] at hb ⊢
      rw [rowAt_cons c.ne, ih k bb hk2 hb]
      have := (c.from (rowD0 R k) (rowD0_mem hk2)).2.2.2.2 rfl
      rw [if_neg]
      rw [hit_no (.inl this)]
      decide
  | @hard z a b n R h hz c ih =>
    intro k bb hk hb
    cases k with
    | zero => exact rowAt_head (hit_yes (.inr ⟨rfl, .inl rfl⟩))
    | succ k =>
      have hk2 : k < R.length := by simpa using hk
      rw [rowD0_succ] at hb ⊢
      rw [rowAt_cons c.ne, ih k bb hk2 hb]
      have := c.from (rowD0 R k) (rowD0_mem hk2)
      rw [if_neg]
      rw [hit_no (.inl (by omega))]
      decide
end
def isStart (t : List Nat) (k : Nat) : Bool := decide (k = 0) || decide (t.getD (k - 1) 0 = 10)
def isEnd (t : List Nat) (k : Nat) : Bool := decide (k = t.length) || decide (t.getD k 0 = 10)
theorem parU_to {t : List Nat} {y : Nat} (hy : y = 0 ∨ t[y - 1]? = some 10) : ∀ (j : Nat), y ≤ j → (∀ x, y < x → x ≤ j → t[x - 1]? ≠ some 10) → parU t j = y
  | 0, h, _ => by
    show 0 = y
    omega
  | j + 1, h, hn => by
    unfold parU
    by_cases e : y = j + 1
    · subst e
      rcases hy with z | z
      · omega
      · rw [show j + 1 - 1 = j by omega] at z
        rw [if_pos z]
    · have := hn (j + 1) (by omega) (Nat.le_refl _)
      rw [show j + 1 - 1 = j by omega] at this
      rw [if_neg this]
      exact parU_to hy j (by omega) fun x a b => hn x a (by omega)
theorem get10 {t : List Nat} {k : Nat} : t[k]? = some 10 ↔ t.getD k 0 = 10 := by
  rw [List.getD_eq_getElem?_getD]
  cases t[k]? with
  | none => exact ⟨fun h => (nomatch h), fun h => absurd h (by decide)⟩
  | some c => exact ⟨fun h => Option.some.inj h, fun h => congrArg some h⟩
theorem isStart_iff {t : List Nat} {k : Nat} : isStart t k = true ↔ k = 0 ∨ t[k - 1]? = some 10 := by
  unfold isStart
  rw [Bool.or_eq_true, decide_eq_true_eq, decide_eq_true_eq, get10]
theorem isEnd_iff {t : List Nat} {k : Nat} : isEnd t k = true ↔ k = t.length ∨ t[k]? = some 10 := by
  unfold isEnd
  rw [Bool.or_eq_true, decide_eq_true_eq, decide_eq_true_eq, get10]
/-- back to the next beginning, forth to the next end -/
theorem parU_start {t : List Nat} {y c : Nat} (hy : isStart t y = true) (hlt : y < c) (hn : ∀ x, y < x → x < c → isStart t x = false) : parU t (c - 1) = y :=
  parU_to (isStart_iff.mp hy) (c - 1) (by omega) fun x a b z => by
    have := hn x a (by omega)
    rw [isStart_iff.mpr (.inr z)] at this
    cases this
theorem parD_end {t : List Nat} {y c : Nat} (hy : isEnd t y = true) (hlt : c < y) (hyl : y ≤ t.length) (hn : ∀ x, c < x → x < y → isEnd t x = false) : parD t (c + 1) = y := by
  have no : ∀ x, c < x → x < y → t[x]? ≠ some 10 := fun x a b z => by
    have := hn x a b
    rw [isEnd_iff.mpr (.inr z)] at this
    cases this
  rcases isEnd_iff.mp hy with e | e
  · rw [e]
    refine parD_none fun j hj z => ?_
    have := (List.getElem?_eq_some_iff.mp z).1
    exact no j (by omega) (by omega) z
  · exact parD_at e (by omega) fun j a b => no j (by omega) b
end CR

end

section
namespace CR
structure Sh.Wn (s : Sh) : Prop where
  lo : s.first ≤ s.row
  hi : s.row < s.first + s.height
theorem firstOf_wn {f rows number height : Nat} (h1 : number < rows) (h2 : 1 ≤ height) : firstOf f rows number height ≤ number ∧ number < firstOf f rows number height + height := by
  unfold firstOf
  dsimp only
  split <;> split <;> omega
theorem firstOf_keep {f rows number height : Nat} (h1 : number < rows) (h2 : f ≤ number) (h3 : number < f + height) : firstOf f rows number height = f := by
  unfold firstOf
  dsimp only
  split <;> split <;> omega
/-- by no more than is needed -/
theorem firstOf_eq {f rows number height : Nat} (h1 : number < rows) (hf : f < rows) (hh : 1 ≤ height) : firstOf f rows number height = if number < f then number else max f (number + 1 - height) := by
  unfold firstOf
  dsimp only
  rw [Nat.min_eq_left (by omega)]
  by_cases h : number < f
  · rw [if_pos h, if_pos h]
    split <;> omega
  · rw [if_neg h, if_neg h]
    split <;> omega
theorem Sh.scroll_wn {s : Sh} (hr : s.row < s.R.length) (hh : 1 ≤ s.height) : s.scroll.Wn := by
  obtain ⟨a, b⟩ := firstOf_wn (f := s.first) hr hh
  exact ⟨a, b⟩
theorem Sh.put_wn {s : Sh} {o : Nat} {b ch : Bool} (ok : (s.put0 o b ch).Ok) : (s.put o b ch).Wn := Sh.scroll_wn ok.row_lt ok.h1
theorem Sh.new_wn {t : List Nat} {w h : Nat} (hw : 2 ≤ w) (hh : 1 ≤ h) : (Sh.new t w h).Wn := by
  have cs := rows_cs hw t
  have h0 : (rowD0 (rowsOf w t) 0).1 = 0 := by
    generalize rowsOf w t = R at cs ⊢
    cases cs <;> rfl
  have hr : (Sh.new t w h).row = 0 := by
    have := cs.row_start 0 (List.length_pos_iff.mpr (rowsOf_ne w t))
    rw [h0] at this
    exact this
  exact ⟨Nat.zero_le _, by rw [hr]; show 0 < 0 + h; omega⟩
/-- within a row, not at its soft end -/
theorem Cs.row_mid {z : Bool} {a n : Nat} {R : List RowT} (h : Cs z a R n) : ∀ k o, k < R.length → (rowD0 R k).1 ≤ o → (o < (rowD0 R k).2.1 ∨ o = (rowD0 R k).2.1 ∧ (rowD0 R k).2.2 = false) → rowAt o false R = k := by
  induction h with
  | last h hz => intro k o hk _ _; have : k = 0 := by simp at hk; exact hk
                 subst this; rfl
  | @soft z a b n R h c ih =>
    intro k o hk h1 h2
    cases k with
    | zero =>
      rcases h2 with e | ⟨_, e⟩
      · exact rowAt_head (hit_yes (.inl e))
      · cases e
    | succ k =>
      have hk2 : k < R.length := by simpa using hk
      rw [rowD0_succ] at h1 h2
      rw [rowAt_cons c.ne, ih k o hk2 h1 h2]
      have := (c.from (rowD0 R k) (rowD0_mem hk2)).1
      rw [if_neg]
      rw [hit_no (.inr ⟨by omega, rfl, rfl⟩)]
      decide
  | @hard z a b n R h hz c ih =>
    intro k o hk h1 h2
    cases k with
    | zero =>
      rcases h2 with e | ⟨e, _⟩
      · exact rowAt_head (hit_yes (.inl e))
      · exact rowAt_head (hit_yes (.inr ⟨e, .inl rfl⟩))
    | succ k =>
      have hk2 : k < R.length := by simpa using hk
      rw [rowD0_succ] at h1 h2
      rw [rowAt_cons c.ne, ih k o hk2 h1 h2]
      have := (c.from (rowD0 R k) (rowD0_mem hk2)).1
      rw [if_neg]
      rw [hit_no (.inl (by omega))]
      decide
/-- the caret put to an offset of a row, back if at its soft end: it stands in that row -/
theorem put_row {R : List RowT} {z : Bool} {a n : Nat} (h : Cs z a R n) {k o : Nat} (hk : k < R.length) (h1 : (rowD0 R k).1 ≤ o) (h2 : o ≤ (rowD0 R k).2.1) : rowAt o (softEnd R k o && softEnd R (rowAt o true R) o) R = k := by
  by_cases e : softEnd R k o = true
  · have e2 := e
    unfold softEnd at e2
    rw [Bool.and_eq_true, decide_eq_true_eq] at e2
    have hr : rowAt o true R = k := by rw [e2.2]; exact h.row_end k true hk (.inl rfl)
    rw [hr, e]
    exact hr
  · have e2 : softEnd R k o = false := by simpa using e
    rw [e2, Bool.false_and]
    refine h.row_mid k o hk h1 ?_
    unfold softEnd at e2
    by_cases he : o = (rowD0 R k).2.1
    · rw [decide_eq_true he, Bool.and_true] at e2
      exact .inr ⟨he, e2⟩
    · exact .inl (by omega)
end CR

end

section
namespace CR
theorem wsp_none {c : Nat} : ∀ p : List Nat, (∀ x ∈ p, x ≠ c) → splitN c p = [p]
  | [], _ => rfl
  | x :: p, h => by
    have ih := wsp_none p fun y hy => h y (List.mem_cons_of_mem _ hy)
    unfold splitN
    rw [if_neg (h x List.mem_cons_self), ih]
theorem wsp_app {c : Nat} (s : List Nat) : ∀ p : List Nat, (∀ x ∈ p, x ≠ c) → splitN c (p ++ c :: s) = p :: splitN c s
  | [], _ => by
    show (if c = c then [] :: splitN c s else _) = _
    rw [if_pos rfl]
  | x :: p, h => by
    have ih := wsp_app s p fun y hy => h y (List.mem_cons_of_mem _ hy)
    show (if x = c then [] :: splitN c (p ++ c :: s) else (match splitN c (p ++ c :: s) with
      | [] => [[x]]
      | q :: ps => (x :: q) :: ps)) = _
    rw [if_neg (h x List.mem_cons_self), ih]
theorem wsp_join {c : Nat} : ∀ ps : List (List Nat), ps ≠ [] → (∀ p ∈ ps, ∀ x ∈ p, x ≠ c) → splitN c (joinN c ps) = ps
  | [], h, _ => absurd rfl h
  | [p], _, h => wsp_none p (h p List.mem_cons_self)
  | p :: q :: r, _, h => by
    show splitN c (p ++ c :: joinN c (q :: r)) = _
    rw [wsp_app _ p (h p List.mem_cons_self), wsp_join (q :: r) (by simp) fun y hy => h y (List.mem_cons_of_mem _ hy)]
def xsR (n : Nat) : List Nat := List.replicate n 120
def txR (ns : List Nat) : List Nat := joinN 10 (ns.map xsR)
def stR (ns : List Nat) (k : Nat) : Nat := ((ns.take k).map (· + 1)).sum
theorem stR_zero (ns : List Nat) : stR ns 0 = 0 := rfl
theorem stR_succ : ∀ {ns : List Nat} {k : Nat}, k < ns.length → stR ns (k + 1) = stR ns k + ns.getD k 0 + 1
  | n :: ns, 0, _ => by simp [stR]
  | n :: ns, k + 1, h => by
    have ih := stR_succ (ns := ns) (k := k) (by simpa using h)
    unfold stR at ih ⊢
    rw [List.take_succ_cons, List.take_succ_cons, List.map_cons, List.map_cons, List.sum_cons, List.sum_cons, ih]
    show _ = n + 1 + _ + ns.getD k 0 + 1
    omega
theorem xsR_len (n : Nat) : (xsR n).length = n := List.length_replicate
theorem wide_x : ∀ n : Nat, wideN (xsR n) = n
  | 0 => rfl
  | n + 1 => by
    show wideN (120 :: xsR n) = n + 1
    rw [wideN_cons, wide_x n]
    show 1 + n = n + 1
    omega
theorem row_x {w n a : Nat} (hw : 2 ≤ w) (h : n ≤ w) : parRows w a (xsR n) = [(a, a + n, false)] := by
  rw [parRows_eq hw, if_neg (by rw [one_row2 (by rw [wide_x]; exact h)]; omega), xsR_len]
theorem rowsF_x {w : Nat} (hw : 2 ≤ w) : ∀ (a : Nat) (ns : List Nat), (∀ n ∈ ns, n ≤ w) → (rowsF w a (ns.map xsR)).length = ns.length ∧ ∀ k, k < ns.length → rowD0 (rowsF w a (ns.map xsR)) k = (a + stR ns k, a + stR ns k + ns.getD k 0, false)
  | a, [], _ => ⟨rfl, fun k hk => (by cases hk)⟩
  | a, n :: ns, h => by
    obtain ⟨ih1, ih2⟩ := rowsF_x hw (a + n + 1) ns fun x hx => h x (List.mem_cons_of_mem _ hx)
    have e : rowsF w a ((n :: ns).map xsR) = (a, a + n, false) :: rowsF w (a + n + 1) (ns.map xsR) := by
      show parRows w a (xsR n) ++ rowsF w (a + (xsR n).length + 1) (ns.map xsR) = _
      rw [row_x hw (h n List.mem_cons_self), xsR_len]
      rfl
    rw [e]
    refine ⟨by rw [List.length_cons, ih1, List.length_cons], fun k hk => ?_⟩
    cases k with
    | zero => rfl
    | succ k =>
      rw [rowD0_succ, ih2 k (by simpa using hk)]
      have : stR (n :: ns) (k + 1) = n + 1 + stR ns k := by
        unfold stR
        rw [List.take_succ_cons, List.map_cons, List.sum_cons]
      rw [this]
      show (a + n + 1 + stR ns k, a + n + 1 + stR ns k + ns.getD k 0, false) = (a + (n + 1 + stR ns k), a + (n + 1 + stR ns k) + ns.getD k 0, false)
      rw [show a + n + 1 + stR ns k = a + (n + 1 + stR ns k) by omega]
section
variable {ns : List Nat}
theorem xs_no (ns : List Nat) : ∀ p ∈ ns.map xsR, ∀ x ∈ p, x ≠ 10 := fun p hp x hx => by
  obtain ⟨n, _, rfl⟩ := List.mem_map.mp hp
  have := List.eq_of_mem_replicate hx
  omega
theorem split_x (h : ns ≠ []) : splitN 10 (txR ns) = ns.map xsR := wsp_join _ (fun z => h (List.map_eq_nil_iff.mp z)) (xs_no ns)
theorem rows_x {w : Nat} (hw : 2 ≤ w) (h : ns ≠ []) (hn : ∀ n ∈ ns, n ≤ w) : (rowsOf w (txR ns)).length = ns.length ∧ ∀ k, k < ns.length → rowD0 (rowsOf w (txR ns)) k = (stR ns k, stR ns k + ns.getD k 0, false) := by
  obtain ⟨a, b⟩ := rowsF_x hw 0 ns hn
  unfold rowsOf
  rw [split_x h]
  refine ⟨a, fun k hk => ?_⟩
  rw [b k hk, Nat.zero_add]
theorem st_sum (k : Nat) : (((ns.take k).map xsR).map fun x => x.length + 1).sum = stR ns k := by
  unfold stR
  rw [List.map_map]
  exact congrArg (fun f => ((ns.take k).map f).sum) (funext fun n => by show (xsR n).length + 1 = n + 1; rw [xsR_len])
theorem seg_x {k : Nat} (hk : k < ns.length) : stR ns k + ns.getD k 0 ≤ (txR ns).length ∧ seg (txR ns) (stR ns k) (stR ns k + ns.getD k 0) = xsR (ns.getD k 0) := by
  have hne : ns ≠ [] := fun z => by rw [z] at hk; cases hk
  have e : splitN 10 (txR ns) = (ns.take k).map xsR ++ xsR (ns.getD k 0) :: (ns.drop (k + 1)).map xsR := by
    rw [split_x hne, ← List.map_cons, ← List.map_append, List.getD_eq_getElem?_getD, List.getElem?_eq_getElem hk]
    show ns.map xsR = (ns.take k ++ ns[k] :: ns.drop (k + 1)).map xsR
    rw [← List.drop_eq_getElem_cons hk, List.take_append_drop]
  have := parts_seg 10 (txR ns) e
  rw [st_sum, xsR_len] at this
  exact this
theorem seg_x2 {k c : Nat} (hk : k < ns.length) (hc : c ≤ ns.getD k 0) : wideN (seg (txR ns) (stR ns k) (stR ns k + c)) = c := by
  have h := (seg_x hk).2
  have e : seg (txR ns) (stR ns k) (stR ns k + c) = (seg (txR ns) (stR ns k) (stR ns k + ns.getD k 0)).take c := by
    unfold seg
    rw [List.take_take, show min c (stR ns k + ns.getD k 0 - stR ns k) = stR ns k + c - stR ns k by omega]
  rw [e, h]
  unfold xsR
  rw [List.take_replicate, show min c (ns.getD k 0) = c by omega]
  exact wide_x c
theorem near_x {k w : Nat} (hk : k < ns.length) : nearO (txR ns) (stR ns k, stR ns k + ns.getD k 0, false) w = stR ns k + min w (ns.getD k 0) := by
  have hd : ∀ c, c ≤ ns.getD k 0 → dst (txR ns) (stR ns k) w (stR ns k + c) = ((c : Int) - (w : Int)).natAbs := fun c hc => by
    unfold dst
    rw [seg_x2 hk hc]
  have hd2 : ∀ o, stR ns k ≤ o → o ≤ stR ns k + ns.getD k 0 → dst (txR ns) (stR ns k) w o = (((o - stR ns k : Nat) : Int) - (w : Int)).natAbs := fun o h1 h2 => by
    have := hd (o - stR ns k) (by omega)
    rwa [show stR ns k + (o - stR ns k) = o by omega] at this
  unfold nearO
  dsimp only
  refine nearF_one (by omega) (by omega) (fun o h1 h2 => ?_) (fun o h1 h2 => ?_)
  · rw [hd _ (by omega), hd2 o h1 (by omega)]
    omega
  · rw [hd _ (by omega), hd2 o h1 (by omega)]
    omega
theorem tx_len (h : ns ≠ []) : (txR ns).length = stR ns (ns.length - 1) + ns.getD (ns.length - 1) 0 := by
  have h1 := join_len 10 (ns.map xsR) (fun z => h (List.map_eq_nil_iff.mp z))
  have h2 := st_sum (ns := ns) ns.length
  rw [List.take_length] at h2
  rw [h2] at h1
  have hl := List.length_pos_iff.mpr h
  have h3 := stR_succ (ns := ns) (k := ns.length - 1) (by omega)
  rw [show ns.length - 1 + 1 = ns.length by omega] at h3
  have h4 : (joinN 10 (ns.map xsR)).length = (txR ns).length := rfl
  omega
end
/-- where one is -/
structure AtW (ns : List Nat) (h : Nat) (s : Sh) (k c : Nat) : Prop where
  now : s.now = txR ns
  wid : s.width = 100
  hei : s.height = h
  h1 : 1 ≤ h
  ns20 : ∀ n ∈ ns, n ≤ 100
  bk : s.back = false
  kl : k < ns.length
  cl : c ≤ ns.getD k 0
  car : s.caret = stR ns k + c
section
variable {ns : List Nat} {h k c : Nat} {s : Sh}
theorem AtW.ne (A : AtW ns h s k c) : ns ≠ [] := fun z => by
  have := A.kl
  rw [z] at this
  cases this
theorem AtW.R (A : AtW ns h s k c) : s.R.length = ns.length ∧ ∀ k, k < ns.length → rowD0 s.R k = (stR ns k, stR ns k + ns.getD k 0, false) := by
  unfold Sh.R
  rw [A.now, A.wid]
  exact rows_x (by decide) A.ne A.ns20
theorem AtW.row (A : AtW ns h s k c) : s.row = k := by
  obtain ⟨h1, h2⟩ := A.R
  have cs : Cs false 0 s.R s.now.length := by
    unfold Sh.R
    rw [A.wid]
    exact rows_cs (by decide) _
  have e := h2 k A.kl
  have hc := A.cl
  unfold Sh.row
  rw [A.bk, A.car]
  refine cs.row_mid k _ (by rw [h1]; exact A.kl) (by rw [e]; exact Nat.le_add_right _ _) ?_
  rw [e]
  dsimp only
  by_cases z : c = ns.getD k 0
  · exact .inr ⟨by rw [z], rfl⟩
  · exact .inl (by omega)
theorem AtW.col (A : AtW ns h s k c) : s.col = c := by
  have e := A.R.2 k A.kl
  unfold Sh.col
  rw [A.row, e, A.now, A.car]
  exact seg_x2 A.kl A.cl
/-- put somewhere -/
theorem AtW.put {k2 c2 : Nat} {s2 : Sh} (A : AtW ns h s k c) (e1 : s2.now = s.now) (e2 : s2.width = s.width) (e3 : s2.height = s.height) (b ch : Bool) (h1 : k2 < ns.length) (h2 : c2 ≤ ns.getD k2 0) : AtW ns h (s2.put (stR ns k2 + c2) b ch) k2 c2 := by
  have hR : s2.R = s.R := by unfold Sh.R; rw [e1, e2]
  obtain ⟨r1, r2⟩ := A.R
  refine ⟨e1.trans A.now, e2.trans A.wid, e3.trans A.hei, A.h1, A.ns20, ?_, h1, h2, rfl⟩
  show (b && softEnd s2.R (rowAt (stR ns k2 + c2) true s2.R) (stR ns k2 + c2)) = false
  unfold softEnd
  rw [hR, r2 _ (by rw [← r1]; exact rowAt_lt _ _ (fun z => by rw [z] at r1; exact A.ne (List.length_eq_zero_iff.mp r1.symm)))]
  simp
/-- a way up or down -/
theorem AtW.step (A : AtW ns h s k c) {m : Mv} (hm : m.vert = true) (g : Nat) (hg : (g : Int) = min (max 0 ((k : Int) + m.many h)) ((ns.length : Int) - 1)) : AtW ns h (s.move m false) g (if g = k then (if m.many h < 0 then 0 else ns.getD k 0) else min (s.wish.getD c) (ns.getD g 0)) ∧ (s.move m false).wish = some (s.wish.getD c) := by
  obtain ⟨r1, r2⟩ := A.R
  have hk := A.kl
  have hh := A.h1
  have hrow := A.row
  have hcol := A.col
  have hm0 : m.many h ≠ 0 := by cases m <;> simp only [Mv.many] <;> first | omega | cases hm
  have e : s.move m false = s.rowsMove (m.many h) false := by
    unfold Sh.move
    rw [if_pos hm, A.hei]
  have w2 : ∀ s1 : Sh, ∀ w : Nat, ∀ k2 c2 : Nat, AtW ns h s1 k2 c2 → AtW ns h { s1 with wish := some w } k2 c2 := fun s1 w k2 c2 a => ⟨a.now, a.wid, a.hei, a.h1, a.ns20, a.bk, a.kl, a.cl, a.car⟩
  rw [e]
  unfold Sh.rowsMove
  rw [hrow, hcol, r1]
  dsimp only
  refine ⟨w2 _ _ _ _ ?_, rfl⟩
  by_cases c1 : (k : Int) + m.many h < 0 ∧ k = 0
  · rw [if_pos c1, if_pos (by omega), if_pos (by omega)]
    obtain ⟨_, rfl⟩ := c1
    obtain rfl : g = 0 := by omega
    exact A.put rfl rfl rfl _ _ (by omega) (Nat.zero_le _)
  · rw [if_neg c1]
    by_cases c2 : (ns.length : Int) ≤ (k : Int) + m.many h ∧ k + 1 = ns.length
    · rw [if_pos c2, if_pos (by omega), if_neg (by omega), A.now, tx_len A.ne]
      obtain rfl : g = k := by omega
      rw [show ns.length - 1 = g by omega]
      exact A.put rfl rfl rfl _ _ hk (Nat.le_refl _)
    · rw [if_neg c2, if_neg (by omega)]
      have e2 : (max (0 : Int) (min ((k : Int) + m.many h) ((ns.length : Int) - 1))).toNat = g := by omega
      have hgl : g < ns.length := by omega
      rw [e2, r2 g hgl, A.now, near_x hgl]
      exact A.put rfl rfl rfl _ _ hgl (Nat.min_le_right _ _)
theorem AtW.endd (A : AtW ns h s k c) : AtW ns h (s.move .end_ false) k (ns.getD k 0) ∧ (s.move .end_ false).wish = none := by
  obtain ⟨r1, r2⟩ := A.R
  have e : s.move .end_ false = Sh.put { s with wish := none } (rowD0 s.R s.row).2.1 true false := rfl
  rw [e, A.row, r2 k A.kl]
  exact ⟨A.put (s2 := { s with wish := none }) rfl rfl rfl _ _ A.kl (Nat.le_refl _), rfl⟩
theorem AtW.mk0 {t : List Nat} {ns : List Nat} {h n : Nat} (hne : ns ≠ []) (hn : ∀ n ∈ ns, n ≤ 100) (hh : 1 ≤ h) {k c : Nat} (hk : k < ns.length) (hc : c ≤ ns.getD k 0) : AtW ns h ((Sh.new (txR ns) 100 h).go (stR ns k + c)) k c ∧ ((Sh.new (txR ns) 100 h).go (stR ns k + c)).wish = none := by
  have A0 : AtW ns h (Sh.new (txR ns) 100 h) 0 0 := ⟨rfl, rfl, rfl, hh, hn, rfl, by omega, Nat.zero_le _, rfl⟩
  exact ⟨A0.put (s2 := { Sh.new (txR ns) 100 h with wish := none }) rfl rfl rfl _ _ hk hc, rfl⟩
end
end CR

end

section
namespace CR
open PySem PySem.Spec PyProof.Rows L2

/-- deep data: what never changes any more is told by value; what may change stands in the store, under its address -/
inductive D where
  | non | bl (b : Bool) | int (i : Int) | str (s : List Nat) | lst (xs : List D) | tup (xs : List D)
  | obj (C : Addr) (fs : List (Str × D)) | ref (a : Addr) | scr (ns : List Int) | ty (n : String)

mutual
inductive Rep (K : PySem.W.Frag) (F : Hp) : V → D → Prop
  | non : Rep K F .non .non
  | bl (b : Bool) : Rep K F (.bl b) (.bl b)
  | int (i : Int) : Rep K F (.int i) (.int i)
  | str (s : List Nat) : Rep K F (.str ⟨s.toArray⟩) (.str s)
  | lst {a : Addr} {vs : List V} {ds : List D} (h : F a = some (.lst vs)) (r : RepL K F vs ds) : Rep K F (.ref a) (.lst ds)
  | tup {a : Addr} {vs : List V} {ds : List D} (h : SqT K F a vs) (r : RepL K F vs ds) : Rep K F (.ref a) (.tup ds)
  | obj {a C dx : Addr} {vs : List (Str × V)} {ds : List (Str × D)} (h : F a = some (.ins C dx vs)) (r : RepF K F vs ds) : Rep K F (.ref a) (.obj C ds)
  | ref (a : Addr) : Rep K F (.ref a) (.ref a)
  | scr {a : Addr} {ns : List Int} (h : SqL K F a (ns.map V.int)) : Rep K F (.ref a) (.scr ns)
  | ty (n : String) : Rep K F (.ty n) (.ty n)
inductive RepL (K : PySem.W.Frag) (F : Hp) : List V → List D → Prop
  | nil : RepL K F [] []
  | cons {v : V} {vs : List V} {d : D} {ds : List D} (h : Rep K F v d) (r : RepL K F vs ds) : RepL K F (v :: vs) (d :: ds)
inductive RepF (K : PySem.W.Frag) (F : Hp) : List (Str × V) → List (Str × D) → Prop
  | nil : RepF K F [] []
  | cons {x : Str} {v : V} {vs : List (Str × V)} {d : D} {ds : List (Str × D)} (h : Rep K F v d) (r : RepF K F vs ds) : RepF K F ((x, v) :: vs) ((x, d) :: ds)
end

abbrev Ex (H H' : Hp) : Prop := Evl.Ex H H'

section
variable {K : PySem.W.Frag} {F F' H H' : Hp}
theorem ex_sqt {a : Addr} {vs : List V} (e : Ex F F') (h : SqT K F a vs) : SqT K F' a vs := Evl.ex_t e h
theorem ex_sql {a : Addr} {vs : List V} (e : Ex F F') (h : SqL K F a vs) : SqL K F' a vs := Evl.ex_l e h
mutual
theorem Rep.mono (e : Ex F F') : ∀ {v : V} {d : D}, Rep K F v d → Rep K F' v d
  | _, _, .non => .non
  | _, _, .bl b => .bl b
  | _, _, .int i => .int i
  | _, _, .str s => .str s
  | _, _, .lst h r => .lst (e _ _ h) (RepL.mono e r)
  | _, _, .tup h r => .tup (ex_sqt e h) (RepL.mono e r)
  | _, _, .obj h r => .obj (e _ _ h) (RepF.mono e r)
  | _, _, .ref a => .ref a
  | _, _, .scr h => .scr (ex_sql e h)
  | _, _, .ty n => .ty n
theorem RepL.mono (e : Ex F F') : ∀ {v : List V} {d : List D}, RepL K F v d → RepL K F' v d
  | _, _, .nil => .nil
  | _, _, .cons h r => .cons (Rep.mono e h) (RepL.mono e r)
theorem RepF.mono (e : Ex F F') : ∀ {v : List (Str × V)} {d : List (Str × D)}, RepF K F v d → RepF K F' v d
  | _, _, .nil => .nil
  | _, _, .cons h r => .cons (Rep.mono e h) (RepF.mono e r)
end
theorem RepL.length : ∀ {v : List V} {d : List D}, RepL K F v d → v.length = d.length
  | _, _, .nil => rfl
  | _, _, .cons _ r => by rw [List.length_cons, List.length_cons, RepL.length r]
theorem RepL.append : ∀ {v w : List V} {d e : List D}, RepL K F v d → RepL K F w e → RepL K F (v ++ w) (d ++ e)
  | _, _, _, _, .nil, s => s
  | _, _, _, _, .cons h r, s => .cons h (RepL.append r s)
theorem RepL.get : ∀ {v : List V} {d : List D} {i : Nat} {x : D}, RepL K F v d → d[i]? = some x → ∃ u, v[i]? = some u ∧ Rep K F u x
  | _, _, _, _, .nil, e => by simp at e
  | _, _, 0, x, .cons h r, e => by
    have e2 := Option.some.inj e
    subst e2
    exact ⟨_, rfl, h⟩
  | _, _, i + 1, x, .cons h r, e => by
    obtain ⟨u, h1, h2⟩ := RepL.get (i := i) (x := x) r (by simpa using e)
    exact ⟨u, by simpa using h1, h2⟩
theorem RepL.getV : ∀ {v : List V} {d : List D} {i : Nat} {u : V}, RepL K F v d → v[i]? = some u → ∃ x, d[i]? = some x ∧ Rep K F u x
  | _, _, _, _, .nil, e => by simp at e
  | _, _, 0, x, .cons h r, e => by
    have e2 := Option.some.inj e
    subst e2
    exact ⟨_, rfl, h⟩
  | _, _, i + 1, x, .cons h r, e => by
    obtain ⟨u, h1, h2⟩ := RepL.getV (i := i) (u := x) r (by simpa using e)
    exact ⟨u, by simpa using h1, h2⟩
theorem RepL.take : ∀ {v : List V} {d : List D} (n : Nat), RepL K F v d → RepL K F (v.take n) (d.take n)
  | _, _, 0, _ => .nil
  | _, _, _ + 1, .nil => .nil
  | _, _, n + 1, .cons h r => .cons h (RepL.take n r)
theorem RepL.drop : ∀ {v : List V} {d : List D} (n : Nat), RepL K F v d → RepL K F (v.drop n) (d.drop n)
  | _, _, 0, r => r
  | _, _, _ + 1, .nil => .nil
  | _, _, n + 1, .cons h r => RepL.drop n r
theorem RepL.set {x : V} {y : D} (q : Rep K F x y) : ∀ {v : List V} {d : List D} (i : Nat), RepL K F v d → RepL K F (v.set i x) (d.set i y)
  | _, _, _, .nil => .nil
  | _, _, 0, .cons _ t => .cons q t
  | _, _, i + 1, .cons h t => .cons h (RepL.set q i t)
theorem RepL.dropLast : ∀ {v : List V} {d : List D}, RepL K F v d → RepL K F v.dropLast d.dropLast := fun {v d} r => by
  rw [List.dropLast_eq_take, List.dropLast_eq_take, r.length]
  exact r.take _
theorem RepL.ints : ∀ {v : List V} {ns : List Int}, RepL K F v (ns.map D.int) → v = ns.map V.int
  | _, [], .nil => rfl
  | _, n :: ns, .cons h r => by
    cases h
    rw [RepL.ints r]
    rfl
theorem RepL.bools : ∀ {v : List V} {ns : List Bool}, RepL K F v (ns.map D.bl) → v = ns.map V.bl
  | _, [], .nil => rfl
  | _, n :: ns, .cons h r => by
    cases h
    rw [RepL.bools r]
    rfl
theorem RepL.of_ints : ∀ (ns : List Int), RepL K F (ns.map V.int) (ns.map D.int)
  | [] => .nil
  | n :: ns => .cons (.int n) (RepL.of_ints ns)
theorem RepL.strs : ∀ {v : List V} {ns : List (List Nat)}, RepL K F v (ns.map D.str) → v = ns.map fun s => V.str ⟨s.toArray⟩
  | _, [], .nil => rfl
  | _, n :: ns, .cons h r => by
    cases h
    rw [RepL.strs r]
    rfl
theorem RepL.of_strs : ∀ (ns : List (List Nat)), RepL K F (ns.map fun s => V.str ⟨s.toArray⟩) (ns.map D.str)
  | [] => .nil
  | n :: ns => .cons (.str n) (RepL.of_strs ns)
def putD (f : Str) (v : D) : List (Str × D) → List (Str × D)
  | [] => [(f, v)]
  | (g, x) :: r => if g = f then (g, v) :: r else (g, x) :: putD f v r
theorem RepF.put {f : Str} {x : V} {y : D} (q : Rep K F x y) : ∀ {v : List (Str × V)} {d : List (Str × D)}, RepF K F v d → RepF K F (putF f x v) (putD f y d)
  | _, _, .nil => .cons q .nil
  | _, _, .cons (x := g) h r => by
    unfold putF putD
    split
    · exact .cons q r
    · exact .cons h (RepF.put q r)
theorem RepF.look {f : Str} {y : D} : ∀ {v : List (Str × V)} {d : List (Str × D)}, RepF K F v d → d.lookup f = some y → ∃ x, v.lookup f = some x ∧ Rep K F x y
  | _, _, .nil, e => by cases e
  | _, _, .cons (x := g) h r, e => by
    rw [List.lookup_cons] at e ⊢
    cases b : f == g with
    | true =>
      rw [b] at e
      have e2 := Option.some.inj e
      subst e2
      exact ⟨_, rfl, h⟩
    | false =>
      rw [b] at e
      exact RepF.look r e
theorem RepF.lookN {f : Str} : ∀ {v : List (Str × V)} {d : List (Str × D)}, RepF K F v d → d.lookup f = none → v.lookup f = none
  | _, _, .nil, e => rfl
  | _, _, .cons (x := g) h r, e => by
    rw [List.lookup_cons] at e ⊢
    cases b : f == g with
    | true =>
      rw [b] at e
      cases e
    | false =>
      rw [b] at e
      exact RepF.lookN r e
theorem RepF.length : ∀ {v : List (Str × V)} {d : List (Str × D)}, RepF K F v d → v.length = d.length
  | _, _, .nil => rfl
  | _, _, .cons _ r => by rw [List.length_cons, List.length_cons, RepF.length r]
end

/-- what stands in the store: a list, a dict, an instance of a class, a held exception -/
inductive Ob where
  | lst (xs : List D) | dct (kvs : List (Key × D)) | ins (C : Addr) (fs : List (Str × D)) | exc (C : Addr)
abbrev Sto := Addr → Option Ob
def put (S : Sto) (a : Addr) (o : Ob) : Sto := fun b => if b = a then some o else S b
def del (S : Sto) (a : Addr) : Sto := fun b => if b = a then none else S b
theorem put_same {S : Sto} {a : Addr} {o : Ob} : put S a o a = some o := if_pos rfl
theorem put_ne {S : Sto} {a b : Addr} {o : Ob} (h : b ≠ a) : put S a o b = S b := if_neg h
theorem put_put {S : Sto} {a : Addr} {o u : Ob} : put (put S a o) a u = put S a u := by
  funext b; unfold put; split <;> rfl
theorem put_comm {S : Sto} {a b : Addr} {o u : Ob} (h : a ≠ b) : put (put S a o) b u = put (put S b u) a o := by
  funext c; unfold put
  by_cases h1 : c = b
  · by_cases h2 : c = a
    · exact absurd (h2.symm.trans h1) h
    · rw [if_pos h1, if_neg h2, if_pos h1]
  · rw [if_neg h1, if_neg h1]
theorem put_self {S : Sto} {a : Addr} {o : Ob} (h : S a = some o) : put S a o = S := by
  funext b; unfold put
  by_cases e : b = a
  · rw [if_pos e, e, h]
  · rw [if_neg e]
theorem del_put {S : Sto} {a : Addr} {o : Ob} (h : S a = none) : del (put S a o) a = S := by
  funext b; unfold del put
  by_cases e : b = a
  · rw [if_pos e, e, h]
  · rw [if_neg e, if_neg e]
/-- a held exception object of the class C -/
def HX (C a : Addr) : HO := .ext fun h => ∃ (oe : Obj) (vs : Array Value), h.get? a = some oe ∧ oe.cls = .ref C ∧ oe.dict = none ∧ oe.data = .fields vs
inductive RepK (K : PySem.W.Frag) (F : Hp) : List (Key × V) → List (Key × D) → Prop
  | nil : RepK K F [] []
  | cons {x : Key} {v : V} {vs : List (Key × V)} {d : D} {ds : List (Key × D)} (h : Rep K F v d) (r : RepK K F vs ds) : RepK K F ((x, v) :: vs) ((x, d) :: ds)
def ObR (K : PySem.W.Frag) (F H : Hp) (a : Addr) : Ob → Prop
  | .lst xs => ∃ vs, H a = some (.lst vs) ∧ RepL K F vs xs
  | .dct kvs => ∃ vs, H a = some (.dK vs) ∧ RepK K F vs kvs
  | .ins C fs => ∃ dx vs, H a = some (.ins C dx vs) ∧ RepF K F vs fs
  | .exc C => H a = some (HX C a)
section
variable {K : PySem.W.Frag} {F F' H H' : Hp}
theorem RepK.mono (e : Ex F F') : ∀ {v : List (Key × V)} {d : List (Key × D)}, RepK K F v d → RepK K F' v d
  | _, _, .nil => .nil
  | _, _, .cons h r => .cons (h.mono e) (RepK.mono e r)
theorem ObR.mono (e : Ex F F') {a : Addr} {o : Ob} (h : H' a = H a) (r : ObR K F H a o) : ObR K F' H' a o := by
  cases o with
  | lst xs => obtain ⟨vs, h1, h2⟩ := r; exact ⟨vs, h.trans h1, h2.mono e⟩
  | dct kvs => obtain ⟨vs, h1, h2⟩ := r; exact ⟨vs, h.trans h1, h2.mono e⟩
  | ins C fs => obtain ⟨dx, vs, h1, h2⟩ := r; exact ⟨dx, vs, h.trans h1, h2.mono e⟩
  | exc C => exact h.trans r
theorem ObR.there {a : Addr} {o : Ob} (r : ObR K F H a o) : ∃ u, H a = some u := by
  cases o with
  | lst xs => obtain ⟨vs, h1, h2⟩ := r; exact ⟨_, h1⟩
  | dct kvs => obtain ⟨vs, h1, h2⟩ := r; exact ⟨_, h1⟩
  | ins C fs => obtain ⟨dx, vs, h1, h2⟩ := r; exact ⟨_, h1⟩
  | exc C => exact ⟨_, r⟩
end
/-- the state: the store and the frozen part of the heap -/
structure Ab (K : PySem.W.Frag) (S : Sto) (F H : Hp) : Prop where
  ex : Ex F H
  st : ∀ a o, S a = some o → F a = none ∧ ObR K F H a o
/-- how a state may go on -/
structure Grow (S : Sto) (F H : Hp) (S' : Sto) (F' H' : Hp) : Prop where
  ex : Ex F F'
  fr : ∀ a o, H a = some o → S a = none → H' a = some o
  nf : ∀ a o, H a = some o → F a = none → F' a = none
  ns : ∀ a o, H a = some o → S a = none → S' a = none
  th : ∀ a o, H a = some o → ∃ o', H' a = some o'
theorem Grow.back {S S1 : Sto} {F F1 H H1 : Hp} {p : Addr} (g : Grow S F H S1 F1 H1) (h : H1 p = none) : H p = none := by
  cases e : H p with
  | none => rfl
  | some o =>
    obtain ⟨u, q⟩ := g.th p o e
    rw [h] at q
    cases q
theorem Grow.refl (S : Sto) (F H : Hp) : Grow S F H S F H := ⟨Evl.Ex.refl F, fun _ _ h _ => h, fun _ _ _ h => h, fun _ _ _ h => h, fun _ o h => ⟨o, h⟩⟩
theorem Grow.trans {S S1 S2 : Sto} {F F1 F2 H H1 H2 : Hp} (a : Grow S F H S1 F1 H1) (b : Grow S1 F1 H1 S2 F2 H2) : Grow S F H S2 F2 H2 where
  ex := a.ex.trans b.ex
  fr := fun c o h n => b.fr c o (a.fr c o h n) (a.ns c o h n)
  nf := fun c o h n => by
    obtain ⟨o', h'⟩ := a.th c o h
    exact b.nf c o' h' (a.nf c o h n)
  ns := fun c o h n => b.ns c o (a.fr c o h n) (a.ns c o h n)
  th := fun c o h => by
    obtain ⟨o', h'⟩ := a.th c o h
    exact b.th c o' h'

/-- a slot: not known, a datum, a list of its own that grows -/
inductive Sl where
  | no | val (d : D) | own (xs : List D)
def SlR (K : PySem.W.Frag) (b : Hp) (S : Sto) (F H : Hp) (ov : Option V) : Sl → Prop
  | .no => True
  | .val d => ∃ v, ov = some v ∧ Rep K F v d
  | .own xs => ∃ l vs, ov = some (.ref l) ∧ H l = some (.lst vs) ∧ RepL K F vs xs ∧ F l = none ∧ S l = none ∧ b l = none
structure ER (K : PySem.W.Frag) (b : Hp) (S : Sto) (F H : Hp) (σ : L2.St) (ρ : List Sl) : Prop where
  len : σ.length = ρ.length
  at_ : ∀ (i : Nat) (s : Sl), ρ[i]? = some s → ∃ ov, σ[i]? = some ov ∧ SlR K b S F H ov s
  sep : ∀ (i j : Nat) (l : Addr) (xs ys : List D), ρ[i]? = some (.own xs) → ρ[j]? = some (.own ys) → σ[i]? = some (some (.ref l)) → σ[j]? = some (some (.ref l)) → i = j
section
variable {K : PySem.W.Frag} {b : Hp} {S S' : Sto} {F F' H H' : Hp} {σ : L2.St} {ρ : List Sl}
theorem SlR.grow (g : Grow S F H S' F' H') {ov : Option V} {s : Sl} (r : SlR K b S F H ov s) : SlR K b S' F' H' ov s := by
  cases s with
  | no => trivial
  | val d => obtain ⟨v, h1, h2⟩ := r; exact ⟨v, h1, h2.mono g.ex⟩
  | own xs => obtain ⟨l, vs, h1, h2, h3, h4, h5, h6⟩ := r; exact ⟨l, vs, h1, g.fr _ _ h2 h5, h3.mono g.ex, g.nf _ _ h2 h4, g.ns _ _ h2 h5, h6⟩
theorem ER.grow (g : Grow S F H S' F' H') (r : ER K b S F H σ ρ) : ER K b S' F' H' σ ρ :=
  ⟨r.len, fun i s h => by
    obtain ⟨ov, h1, h2⟩ := r.at_ i s h
    exact ⟨ov, h1, h2.grow g⟩, r.sep⟩
/-- a slot takes a datum -/
theorem ER.set {v : V} {d : D} (r : ER K b S F H σ ρ) (i : Nat) (q : Rep K F v d) : ER K b S F H (σ.set i (some v)) (ρ.set i (.val d)) where
  len := by rw [List.length_set, List.length_set, r.len]
  at_ := fun j s h => by
    by_cases e : i = j
    · subst e
      by_cases hi : i < ρ.length
      · rw [List.getElem?_set_self hi] at h
        have h2 := Option.some.inj h
        subst h2
        exact ⟨some v, List.getElem?_set_self (by rw [r.len]; exact hi), v, rfl, q⟩
      · rw [List.getElem?_eq_none (by rw [List.length_set]; omega)] at h
        cases h
    · rw [List.getElem?_set_ne e] at h ⊢
      exact r.at_ j s h
  sep := fun a c l xs ys h1 h2 h3 h4 => by
    have ne : ∀ c (zs : List D), (ρ.set i (.val d))[c]? = some (.own zs) → i ≠ c := fun c zs h e => by
      subst e
      by_cases hi : i < ρ.length
      · rw [List.getElem?_set_self hi] at h
        cases h
      · rw [List.getElem?_eq_none (by rw [List.length_set]; omega)] at h
        cases h
    have n1 := ne a xs h1
    have n2 := ne c ys h2
    rw [List.getElem?_set_ne n1] at h1 h3
    rw [List.getElem?_set_ne n2] at h2 h4
    exact r.sep a c l xs ys h1 h2 h3 h4
/-- forgetting -/
theorem ER.forget (r : ER K b S F H σ ρ) (i : Nat) (ov : Option V) : ER K b S F H (σ.set i ov) (ρ.set i .no) where
  len := by rw [List.length_set, List.length_set, r.len]
  at_ := fun j s h => by
    by_cases e : i = j
    · subst e
      by_cases hi : i < ρ.length
      · rw [List.getElem?_set_self hi] at h
        have h2 := Option.some.inj h
        subst h2
        exact ⟨ov, List.getElem?_set_self (by rw [r.len]; exact hi), trivial⟩
      · rw [List.getElem?_eq_none (by rw [List.length_set]; omega)] at h
        cases h
    · rw [List.getElem?_set_ne e] at h ⊢
      exact r.at_ j s h
  sep := fun a c l xs ys h1 h2 h3 h4 => by
    have ne : ∀ c (zs : List D), (ρ.set i .no)[c]? = some (.own zs) → i ≠ c := fun c zs h e => by
      subst e
      by_cases hi : i < ρ.length
      · rw [List.getElem?_set_self hi] at h
        cases h
      · rw [List.getElem?_eq_none (by rw [List.length_set]; omega)] at h
        cases h
    have n1 := ne a xs h1
    have n2 := ne c ys h2
    rw [List.getElem?_set_ne n1] at h1 h3
    rw [List.getElem?_set_ne n2] at h2 h4
    exact r.sep a c l xs ys h1 h2 h3 h4
end
section
variable {K : PySem.W.Frag} {S : Sto} {F H : Hp} {p : Addr} {o : HO}
theorem Ab.fnone (A : Ab K S F H) (h : H p = none) : F p = none := Evl.fresh_back A.ex h
theorem Ab.snone (A : Ab K S F H) (h : H p = none) : S p = none := by
  cases e : S p with
  | none => rfl
  | some o =>
    obtain ⟨u, q⟩ := (A.st p o e).2.there
    rw [h] at q
    cases q
/-- a new object, frozen at once -/
theorem Ab.frozen (A : Ab K S F H) (h : H p = none) : Ab K S (upd F p o) (upd H p o) where
  ex := fun a u e => by
    by_cases c : a = p
    · subst c
      rw [upd_same] at e ⊢
      exact e
    · rw [upd_ne c] at e ⊢
      exact A.ex a u e
  st := fun a u e => by
    have ne : a ≠ p := fun c => by
      subst c
      rw [A.snone h] at e
      cases e
    rw [upd_ne ne]
    exact ⟨(A.st a u e).1, (A.st a u e).2.mono (Evl.Ex.new (A.fnone h)) (upd_ne ne)⟩
theorem Ab.g_frozen (A : Ab K S F H) (h : H p = none) : Grow S F H S (upd F p o) (upd H p o) where
  ex := Evl.Ex.new (A.fnone h)
  fr := fun a u e _ => by rw [upd_ne (ne_of_none e h)]; exact e
  nf := fun a u e n => by rw [upd_ne (ne_of_none e h)]; exact n
  ns := fun a u e n => n
  th := fun a u e => ⟨u, by rw [upd_ne (ne_of_none e h)]; exact e⟩
/-- a new object that no part of the state tells -/
theorem Ab.loose (A : Ab K S F H) (h : H p = none) : Ab K S F (upd H p o) where
  ex := fun a u e => by
    rw [upd_ne (ne_of_none (A.ex a u e) h)]
    exact A.ex a u e
  st := fun a u e => by
    obtain ⟨z, q⟩ := (A.st a u e).2.there
    exact ⟨(A.st a u e).1, (A.st a u e).2.mono (Evl.Ex.refl F) (upd_ne (ne_of_none q h))⟩
theorem Ab.g_loose (A : Ab K S F H) (h : H p = none) : Grow S F H S F (upd H p o) where
  ex := Evl.Ex.refl F
  fr := fun a u e _ => by rw [upd_ne (ne_of_none e h)]; exact e
  nf := fun a u e n => n
  ns := fun a u e n => n
  th := fun a u e => ⟨u, by rw [upd_ne (ne_of_none e h)]; exact e⟩
/-- what stands loose is frozen -/
theorem Ab.freeze (A : Ab K S F H) (h : H p = some o) (hf : F p = none) (hs : S p = none) : Ab K S (upd F p o) H where
  ex := fun a u e => by
    by_cases c : a = p
    · subst c
      rw [upd_same] at e
      rw [← e]
      exact h
    · rw [upd_ne c] at e
      exact A.ex a u e
  st := fun a u e => by
    have ne : a ≠ p := fun c => by
      subst c
      rw [hs] at e
      cases e
    rw [upd_ne ne]
    exact ⟨(A.st a u e).1, (A.st a u e).2.mono (Evl.Ex.new hf) rfl⟩
/-- what stands loose comes into the store -/
theorem Ab.take {u : Ob} (A : Ab K S F H) (r : ObR K F H p u) (hf : F p = none) : Ab K (put S p u) F H where
  ex := A.ex
  st := fun a v e => by
    by_cases c : a = p
    · subst c
      rw [put_same] at e
      have e2 := Option.some.inj e
      subst e2
      exact ⟨hf, r⟩
    · rw [put_ne c] at e
      exact A.st a v e
/-- an object of the store is written -/
theorem Ab.write {u u' : Ob} (A : Ab K S F H) (h : S p = some u) (r : ObR K F (upd H p o) p u') : Ab K (put S p u') F (upd H p o) where
  ex := fun a z e => by
    have ne : a ≠ p := fun c => by
      subst c
      rw [(A.st a u h).1] at e
      cases e
    rw [upd_ne ne]
    exact A.ex a z e
  st := fun a v e => by
    by_cases c : a = p
    · subst c
      rw [put_same] at e
      have e2 := Option.some.inj e
      subst e2
      exact ⟨(A.st a u h).1, r⟩
    · rw [put_ne c] at e
      exact ⟨(A.st a v e).1, (A.st a v e).2.mono (Evl.Ex.refl F) (upd_ne c)⟩
theorem Ab.g_write {u u' : Ob} (A : Ab K S F H) (h : S p = some u) : Grow S F H (put S p u') F (upd H p o) where
  ex := Evl.Ex.refl F
  fr := fun a z e n => by
    have ne : a ≠ p := fun c => by
      subst c
      rw [h] at n
      cases n
    rw [upd_ne ne]
    exact e
  nf := fun a z e n => n
  ns := fun a z e n => by
    have ne : a ≠ p := fun c => by
      subst c
      rw [h] at n
      cases n
    rw [put_ne ne]
    exact n
  th := fun a z e => by
    by_cases c : a = p
    · subst c
      exact ⟨o, upd_same⟩
    · exact ⟨z, by rw [upd_ne c]; exact e⟩
end
end CR

end

section
namespace CR
open PySem PySem.Spec PyProof.Rows L2

/-- what stays through a whole law -/
structure Wd where
  P : Program
  w : World
  K : PySem.W.Frag
  mg : Str → Option Value
  base : Heap
/-- the state at a def's entry -/
structure Bs where
  S : Sto
  F : Hp
  H : Hp
abbrev EK := Addr → List Sl → Sto → Prop
/-- a wish about exceptions, told to the layer below -/
def LX (K : PySem.W.Frag) (B : Bs) (E : EK) : WX := fun cls dd σ H => ∃ C ρ S F, cls = .ref C ∧ dd = none ∧ Ab K S F H ∧ ER K B.H S F H σ ρ ∧ Grow B.S B.F B.H S F H ∧ E C ρ S
/-- each name once, as it were -/
def Uq (nm : List (Str × NameKind)) : Prop := ∀ y ∈ nm, nm.lookup y.1 = some y.2
def uqB (nm : List (Str × NameKind)) : Bool := nm.all fun y => decide (nm.lookup y.1 = some y.2)
theorem uq_of {nm : List (Str × NameKind)} (h : uqB nm = true) : Uq nm := fun y hy => of_decide_eq_true (List.all_eq_true.mp h y hy)
/-- where one stands: the names by slot N, the scope's names nm, room for k calls -/
structure Gd (Γ : Wd) (X : Cx) (N : List Str) (nm : List (Str × NameKind)) (k : Nat) (B : Bs) (E : EK) : Prop where
  hP : X.prog = Γ.P
  hw : X.w = Γ.w
  hK : X.K = Γ.K
  hm : X.mg = Γ.mg
  hb : X.base = Γ.base
  hN : X.N = N
  nd : N.Nodup
  hn : X.env.scope.names = nm
  uq : Uq nm
  room : Room k X.A
  calm : X.calm = true
  kind : X.env.scope.kind = .function
  pass : PassesOwn (model X.prog X.w) X.A X.env X.xe
  tk : Takes X (LX Γ.K B E)
/-- the same in a def's own body -/
structure Gs (Γ : Wd) (X : Cx) (N : List Str) (nm : List (Str × NameKind)) (k : Nat) (B : Bs) (E : EK) : Prop where
  g : Gd Γ X N nm k B E
  fn : ∀ x, X.fn x = true
  stk : X.stack = X.env :: X.outer
  frm : X.env.frame = some X.env.locals
  hex : X.ex = []

def tW (X : Cx) (e : Expr) : TE := fun σ H Q => ∀ pins s, Inv X pins σ H s → wpAny (model X.prog X.w) X.A (eval e X.env) (EP X pins σ Q) X.xe s
def ttW (X : Cx) (e : Expr) : TT := fun σ H Q => ∀ pins s, Inv X pins σ H s → wpAny (model X.prog X.w) X.A (isTrue e X.env (eval e X.env)) (TP X pins σ Q) X.xe s
def twW (X : Cx) (e : Expr) : TT := fun σ H Q => ∀ whole pins s, Inv X pins σ H s → wpAny (model X.prog X.w) X.A (isTrue e X.env whole) (TP X pins σ Q) X.xe s
def taW (X : Cx) (es : List Expr) : TA := fun σ H Q => ∀ pos pins s, Inv X pins σ H s → wpAny (model X.prog X.w) X.A (spliced (backTo pos (starEach es X.env))) (AP X pins σ Q) X.xe s
def tsW (X : Cx) (st : Stmt) : TS := fun D σ H => ∀ pins s, Inv X pins σ H s → wpAny (model X.prog X.w) X.A (exec st X.env) (SP X pins D) X.xe s
def tssW (X : Cx) (st : List Stmt) : TS := fun D σ H => ∀ pins s, Inv X pins σ H s → wpAny (model X.prog X.w) X.A (execs st X.env) (SP X pins D) X.xe s
section
variable {X : Cx} {e : Expr} {es : List Expr} {st : Stmt} {sts : List Stmt} {σ : L2.St} {H : Hp}
theorem pe_w : PE X e (tW X e) := ⟨fun pins s σ H Q I h => h pins s I⟩
theorem pt_w : PT X e (ttW X e) := ⟨fun pins s σ H Q I h => h pins s I⟩
theorem pw_w : PW X e (twW X e) := ⟨fun wh pins s σ H Q I h => h wh pins s I⟩
theorem pa_w : PA X es (taW X es) := ⟨fun pos pins s σ H Q I h => h pos pins s I⟩
theorem ps_w : PS X st (tsW X st) := ⟨fun pins s σ H D I h => h pins s I⟩
theorem pss_w : PSs X sts (tssW X sts) := ⟨fun pins s σ H D I h => h pins s I⟩
theorem _root_.L2.PE.tw {t : TE} (h : PE X e t) {Q : VK} (q : t σ H Q) : tW X e σ H Q := fun pins s I => h.run pins s σ H Q I q
theorem _root_.L2.PT.tw {t : TT} (h : PT X e t) {Q : Bool → Hp → Prop} (q : t σ H Q) : ttW X e σ H Q := fun pins s I => h.run pins s σ H Q I q
theorem _root_.L2.PW.tw {t : TT} (h : PW X e t) {Q : Bool → Hp → Prop} (q : t σ H Q) : twW X e σ H Q := fun wh pins s I => h.run wh pins s σ H Q I q
theorem _root_.L2.PA.tw {t : TA} (h : PA X es t) {Q : List V → Hp → Prop} (q : t σ H Q) : taW X es σ H Q := fun pos pins s I => h.run pos pins s σ H Q I q
theorem _root_.L2.PS.tw {t : TS} (h : PS X st t) {D : Ends} (q : t D σ H) : tsW X st D σ H := fun pins s I => h.run pins s σ H D I q
theorem _root_.L2.PSs.tw {t : TS} (h : PSs X sts t) {D : Ends} (q : t D σ H) : tssW X sts D σ H := fun pins s I => h.run pins s σ H D I q
theorem tW.mono {Q Q' : VK} (h : tW X e σ H Q) (f : ∀ v H', Q v H' → Q' v H') : tW X e σ H Q' := fun pins s I =>
  thn (h pins s I) fun u s1 ⟨v, H1, I1, r, q⟩ => ⟨v, H1, I1, r, f _ _ q⟩
theorem ttW.mono {Q Q' : Bool → Hp → Prop} (h : ttW X e σ H Q) (f : ∀ v H', Q v H' → Q' v H') : ttW X e σ H Q' := fun pins s I =>
  thn (h pins s I) fun u s1 ⟨H1, I1, q⟩ => ⟨H1, I1, f _ _ q⟩
theorem twW.mono {Q Q' : Bool → Hp → Prop} (h : twW X e σ H Q) (f : ∀ v H', Q v H' → Q' v H') : twW X e σ H Q' := fun wh pins s I =>
  thn (h wh pins s I) fun u s1 ⟨H1, I1, q⟩ => ⟨H1, I1, f _ _ q⟩
theorem taW.mono {Q Q' : List V → Hp → Prop} (h : taW X es σ H Q) (f : ∀ v H', Q v H' → Q' v H') : taW X es σ H Q' := fun pos pins s I =>
  thn (h pos pins s I) fun u s1 ⟨v, H1, I1, r, q⟩ => ⟨v, H1, I1, r, f _ _ q⟩
/-- ends that say more -/
structure EndsLe (D D' : Ends) : Prop where
  nx : ∀ σ H, D.nx σ H → D'.nx σ H
  rt : ∀ v H, D.rt v H → D'.rt v H
  bk : ∀ σ H, D.bk σ H → D'.bk σ H
  ct : ∀ σ H, D.ct σ H → D'.ct σ H
theorem SP.mono {D D' : Ends} (l : EndsLe D D') {pins : List (Addr × Obj)} {f : Flow} {s : Shared} (h : SP X pins D f s) : SP X pins D' f s := by
  cases f with
  | next => obtain ⟨σ', H', I, q⟩ := h; exact ⟨σ', H', I, l.nx _ _ q⟩
  | brk => obtain ⟨σ', H', I, q⟩ := h; exact ⟨σ', H', I, l.bk _ _ q⟩
  | cont => obtain ⟨σ', H', I, q⟩ := h; exact ⟨σ', H', I, l.ct _ _ q⟩
  | ret u => obtain ⟨v, σ', H', I, r, q⟩ := h; exact ⟨v, σ', H', I, r, l.rt _ _ q⟩
theorem tsW.mono {D D' : Ends} (h : tsW X st D σ H) (l : EndsLe D D') : tsW X st D' σ H := fun pins s I => thn (h pins s I) fun f s1 q => SP.mono l q
theorem tssW.mono {D D' : Ends} (h : tssW X sts D σ H) (l : EndsLe D D') : tssW X sts D' σ H := fun pins s I => thn (h pins s I) fun f s1 q => SP.mono l q
end

def Cf (Γ : Wd) (B : Bs) (F H : Hp) (σ : L2.St) (ρ : List Sl) (S : Sto) : Prop := Ab Γ.K S F H ∧ ER Γ.K B.H S F H σ ρ ∧ Grow B.S B.F B.H S F H
def VQ (Γ : Wd) (S : Sto) (F H : Hp) (Q : D → Sto → Prop) : VK := fun v H' => ∃ F' d S', Ab Γ.K S' F' H' ∧ Grow S F H S' F' H' ∧ Rep Γ.K F' v d ∧ Q d S'
def BQ (Γ : Wd) (S : Sto) (F H : Hp) (Q : Bool → Sto → Prop) : Bool → Hp → Prop := fun b H' => ∃ F' S', Ab Γ.K S' F' H' ∧ Grow S F H S' F' H' ∧ Q b S'
def AQ (Γ : Wd) (S : Sto) (F H : Hp) (Q : List D → Sto → Prop) : List V → Hp → Prop := fun v H' => ∃ F' d S', Ab Γ.K S' F' H' ∧ Grow S F H S' F' H' ∧ RepL Γ.K F' v d ∧ Q d S'
/-- the expression gives a d, leaving a store, of which Q is true -/
structure wE (Γ : Wd) (X : Cx) (B : Bs) (e : Expr) (ρ : List Sl) (S : Sto) (Q : D → Sto → Prop) : Prop where
  run : ∀ F H σ, Cf Γ B F H σ ρ S → tW X e σ H (VQ Γ S F H Q)
structure wT (Γ : Wd) (X : Cx) (B : Bs) (e : Expr) (ρ : List Sl) (S : Sto) (Q : Bool → Sto → Prop) : Prop where
  run : ∀ F H σ, Cf Γ B F H σ ρ S → ttW X e σ H (BQ Γ S F H Q)
structure wW (Γ : Wd) (X : Cx) (B : Bs) (e : Expr) (ρ : List Sl) (S : Sto) (Q : Bool → Sto → Prop) : Prop where
  run : ∀ F H σ, Cf Γ B F H σ ρ S → twW X e σ H (BQ Γ S F H Q)
structure wA (Γ : Wd) (X : Cx) (B : Bs) (es : List Expr) (ρ : List Sl) (S : Sto) (Q : List D → Sto → Prop) : Prop where
  run : ∀ F H σ, Cf Γ B F H σ ρ S → taW X es σ H (AQ Γ S F H Q)
structure Dn where
  nx : List Sl → Sto → Prop
  rt : D → Sto → Prop
  bk : List Sl → Sto → Prop := fun _ _ => False
  ct : List Sl → Sto → Prop := fun _ _ => False
def NQ (Γ : Wd) (B : Bs) (F0 : Hp) (q : List Sl → Sto → Prop) : L2.St → Hp → Prop := fun σ H => ∃ ρ S F, Cf Γ B F H σ ρ S ∧ Ex F0 F ∧ q ρ S
def RQ (Γ : Wd) (B : Bs) (q : D → Sto → Prop) : VK := fun v H => ∃ d S F, Ab Γ.K S F H ∧ Grow B.S B.F B.H S F H ∧ Rep Γ.K F v d ∧ q d S
def lift (Γ : Wd) (B : Bs) (F0 : Hp) (D : Dn) : Ends := ⟨NQ Γ B F0 D.nx, RQ Γ B D.rt, NQ Γ B F0 D.bk, NQ Γ B F0 D.ct⟩
theorem lift_le {Γ : Wd} {B : Bs} {F F' : Hp} {D : Dn} (e : Ex F F') : EndsLe (lift Γ B F' D) (lift Γ B F D) :=
  ⟨fun _ _ ⟨ρ, S, F1, c, e1, q⟩ => ⟨ρ, S, F1, c, e.trans e1, q⟩, fun _ _ q => q, fun _ _ ⟨ρ, S, F1, c, e1, q⟩ => ⟨ρ, S, F1, c, e.trans e1, q⟩, fun _ _ ⟨ρ, S, F1, c, e1, q⟩ => ⟨ρ, S, F1, c, e.trans e1, q⟩⟩
theorem ex_r (F : Hp) : Ex F F := Evl.Ex.refl F
structure wS (Γ : Wd) (X : Cx) (B : Bs) (st : Stmt) (ρ : List Sl) (S : Sto) (D : Dn) : Prop where
  run : ∀ F H σ, Cf Γ B F H σ ρ S → tsW X st (lift Γ B F D) σ H
structure wSs (Γ : Wd) (X : Cx) (B : Bs) (st : List Stmt) (ρ : List Sl) (S : Sto) (D : Dn) : Prop where
  run : ∀ F H σ, Cf Γ B F H σ ρ S → tssW X st (lift Γ B F D) σ H

section
variable {Γ : Wd} {X : Cx} {B : Bs} {e a b c : Expr} {es : List Expr} {st : Stmt} {sts : List Stmt} {ρ : List Sl} {S : Sto} {N : List Str} {nm : List (Str × NameKind)} {k : Nat} {E : EK} {pos : Pos}
variable {F H F' H' : Hp} {S' : Sto} {σ : L2.St} {d : D} {Q : D → Sto → Prop} {QB : Bool → Sto → Prop} {QA : List D → Sto → Prop} {Dd : Dn}

theorem Cf.grow (c : Cf Γ B F H σ ρ S) (A : Ab Γ.K S' F' H') (g : Grow S F H S' F' H') : Cf Γ B F' H' σ ρ S' := ⟨A, c.2.1.grow g, c.2.2.trans g⟩
theorem VQ.same (A : Ab Γ.K S F H) {v : V} (r : Rep Γ.K F v d) (q : Q d S) : VQ Γ S F H Q v H := ⟨F, d, S, A, Grow.refl S F H, r, q⟩
theorem VQ.trans (g : Grow S F H S' F' H') {v : V} {H2 : Hp} (h : VQ Γ S' F' H' Q v H2) : VQ Γ S F H Q v H2 := by
  obtain ⟨F2, d, S2, A, g2, r, q⟩ := h
  exact ⟨F2, d, S2, A, g.trans g2, r, q⟩
/-- a new frozen object as the value -/
theorem VQ.new (A : Ab Γ.K S F H) {p : Addr} {o : HO} (hp : H p = none) (r : Rep Γ.K (upd F p o) (.ref p) d) (q : Q d S) : VQ Γ S F H Q (.ref p) (upd H p o) := ⟨_, d, S, A.frozen hp, A.g_frozen hp, r, q⟩
theorem BQ.same (A : Ab Γ.K S F H) {b : Bool} (q : QB b S) : BQ Γ S F H QB b H := ⟨F, S, A, Grow.refl S F H, q⟩
theorem BQ.trans (g : Grow S F H S' F' H') {v : Bool} {H2 : Hp} (h : BQ Γ S' F' H' QB v H2) : BQ Γ S F H QB v H2 := by
  obtain ⟨F2, S2, A, g2, q⟩ := h
  exact ⟨F2, S2, A, g.trans g2, q⟩
theorem AQ.trans (g : Grow S F H S' F' H') {v : List V} {H2 : Hp} (h : AQ Γ S' F' H' QA v H2) : AQ Γ S F H QA v H2 := by
  obtain ⟨F2, d, S2, A, g2, r, q⟩ := h
  exact ⟨F2, d, S2, A, g.trans g2, r, q⟩

theorem wE.mono {Q' : D → Sto → Prop} (h : wE Γ X B e ρ S Q) (f : ∀ d S', Q d S' → Q' d S') : wE Γ X B e ρ S Q' := .mk fun F H σ c => (h.run F H σ c).mono fun v H' ⟨F2, d, S2, A, g, r, q⟩ => ⟨F2, d, S2, A, g, r, f _ _ q⟩
theorem wA.mono {Q' : List D → Sto → Prop} (h : wA Γ X B es ρ S QA) (f : ∀ d S', QA d S' → Q' d S') : wA Γ X B es ρ S Q' := .mk fun F H σ c => (h.run F H σ c).mono fun v H' ⟨F2, d, S2, A, g, r, q⟩ => ⟨F2, d, S2, A, g, r, f _ _ q⟩
theorem wT.mono {Q' : Bool → Sto → Prop} (h : wT Γ X B e ρ S QB) (f : ∀ d S', QB d S' → Q' d S') : wT Γ X B e ρ S Q' := .mk fun F H σ c => (h.run F H σ c).mono fun v H' ⟨F2, S2, A, g, q⟩ => ⟨F2, S2, A, g, f _ _ q⟩

/-- the i-th of the names -/
theorem nm0 {x : Str} {r : List Str} : (x :: r)[0]? = some x := rfl
theorem wE_name (G : Gd Γ X N nm k B E) {x : Str} {i : Nat} (hi : N[i]? = some x) (hv : nm.lookup x = some .local ∨ nm.lookup x = some .cell ∨ nm.lookup x = some .free) (hs : ρ[i]? = some (.val d)) (q : Q d S)
    (hd : (x == ("__debug__" : Str)) = false := by decide) (hcd : (x == ("__classdict__" : Str)) = false := by decide) : wE Γ X B (.Name x pos) ρ S Q := .mk fun F H σ c => by
  have hi' : X.N[i]? = some x := by rw [G.hN]; exact hi
  have hv' : Vis X.env.scope x := by unfold Vis; rw [G.hn]; exact hv
  obtain ⟨ov, h1, v, rfl, r⟩ := c.2.1.at_ i _ hs
  exact (pe_var hi' hv' hd hcd).tw ⟨v, h1, VQ.same c.1 r q⟩
theorem wE_int {i : Int} {j : Nat} (q : Q (.int i) S) : wE Γ X B (.Constant (.int i) j pos) ρ S Q := .mk fun F H σ c => pe_int.tw (VQ.same c.1 (.int i) q)
theorem wE_bool {b : Bool} {j : Nat} (q : Q (.bl b) S) : wE Γ X B (.Constant (.bool b) j pos) ρ S Q := .mk fun F H σ c => pe_bl.tw (VQ.same c.1 (.bl b) q)
theorem wE_none {j : Nat} (q : Q .non S) : wE Γ X B (.Constant .none j pos) ρ S Q := .mk fun F H σ c => pe_non.tw (VQ.same c.1 .non q)
theorem wE_str {x : Str} {j : Nat} (q : Q (.str x.cps.toList) S) : wE Γ X B (.Constant (.str x) j pos) ρ S Q := .mk fun F H σ c => pe_str.tw (VQ.same c.1 (by
  have e : x = ⟨x.cps.toList.toArray⟩ := by rw [Array.toArray_toList]
  rw [show (V.str x) = V.str ⟨x.cps.toList.toArray⟩ from congrArg V.str e]
  exact .str x.cps.toList) q)
/-- a module's name: what it holds -/
structure GlV (Γ : Wd) (x : Str) (d : D) : Prop where
  ex : ∃ u v, Γ.mg x = some u ∧ RelV v u ∧ ∀ F, Rep Γ.K F v d
theorem wE_glob (G : Gd Γ X N nm k B E) {x : Str} (g : GlV Γ x d) (hg : nm.lookup x = some .globalImplicit) (q : Q d S) (hd : (x == ("__debug__" : Str)) = false := by decide) : wE Γ X B (.Name x pos) ρ S Q := .mk fun F H σ c => by
  obtain ⟨u, v, h1, h2, h3⟩ := g.ex
  have hg' : Gl X x := by unfold Gl Env.kindOf; rw [G.hn]; exact hg
  exact (pe_glob hg' (by rw [G.hm]; exact h1) h2 hd).tw (VQ.same c.1 (h3 F) q)

/-- what an operation on values gives, the store as it is -/
def Op2 (Γ : Wd) (r : R2) (x y z : D) : Prop := ∀ (S : Sto) (F H : Hp) (v u : V) (Qv : VK), Ab Γ.K S F H → Rep Γ.K F v x → Rep Γ.K F u y → (∀ v' F' H', Ab Γ.K S F' H' → Grow S F H S F' H' → Rep Γ.K F' v' z → Qv v' H') → r v u H Qv
structure BinR (Γ : Wd) (X : Cx) (op : Operator) (x y z : D) : Prop where
  ex : ∃ r, OpR X (binaryOp op) r ∧ Op2 Γ r x y z
structure CmpR (Γ : Wd) (X : Cx) (op : CmpOp) (x y : D) (z : Bool) : Prop where
  ex : ∃ r, OpR X (compareOp op) r ∧ Op2 Γ r x y (.bl z)
/-- two parts, evaluated from the left, then an operation -/
theorem wE_bin {op : Operator} (h : wE Γ X B a ρ S fun x S1 => wE Γ X B b ρ S1 fun y S2 => ∃ z, BinR Γ X op x y z ∧ Q z S2) : wE Γ X B (.BinOp a op b pos) ρ S Q := .mk fun F H σ c => by
  intro pins s I
  refine wpAny_BinOp (binT pe_w pe_w I (R := fun v u H2 => ∃ r, OpR X (binaryOp op) r ∧ r v u H2 (VQ Γ S F H Q)) ?_ fun v u s2 x y H2 I2 rx ry ⟨r, hr, q⟩ => hr pins s2 σ H2 x y v u _ I2 rx ry q)
  refine (h.run F H σ c).mono fun v H1 ⟨F1, x, S1, A1, g1, r1, h1⟩ => ?_
  refine (h1.run F1 H1 σ (c.grow A1 g1)).mono fun u H2 ⟨F2, y, S2, A2, g2, r2, z, ⟨r, hr, o⟩, q⟩ => ⟨r, hr, ?_⟩
  exact o S2 F2 H2 v u _ A2 (r1.mono g2.ex) r2 fun v' F' H' A' g' r' => ⟨F', z, S2, A', (g1.trans g2).trans g', r', q⟩
/-- a comparison as a value -/
theorem wE_cmp {op : CmpOp} (h : wE Γ X B a ρ S fun x S1 => wE Γ X B b ρ S1 fun y S2 => ∃ z, CmpR Γ X op x y z ∧ Q (.bl z) S2) (hm : behindInMarks op b = false := by with_unfolding_all rfl) : wE Γ X B (.Compare a [op] [b] pos) ρ S Q := .mk fun F H σ c => by
  intro pins s I
  refine wpAny_Compare1 (binT pe_w pe_w I (R := fun v u H2 => ∃ r, OpR X (compareOp op) r ∧ r v u H2 (VQ Γ S F H Q)) ?_ fun v u s2 x y H2 I2 rx ry ⟨r, hr, q⟩ => hr pins s2 σ H2 x y v u _ I2 rx ry q) hm
  refine (h.run F H σ c).mono fun v H1 ⟨F1, x, S1, A1, g1, r1, h1⟩ => ?_
  refine (h1.run F1 H1 σ (c.grow A1 g1)).mono fun u H2 ⟨F2, y, S2, A2, g2, r2, z, ⟨r, hr, o⟩, q⟩ => ⟨r, hr, ?_⟩
  exact o S2 F2 H2 v u _ A2 (r1.mono g2.ex) r2 fun v' F' H' A' g' r' => ⟨F', _, S2, A', (g1.trans g2).trans g', r', q⟩
/-- .. as a test -/
theorem wT_cmp {op : CmpOp} (h : wE Γ X B a ρ S fun x S1 => wE Γ X B b ρ S1 fun y S2 => ∃ z, CmpR Γ X op x y z ∧ QB z S2) (hm : behindInMarks op b = false := by with_unfolding_all rfl) : wT Γ X B (.Compare a [op] [b] pos) ρ S QB := .mk fun F H σ c => by
  intro pins s I
  refine wpAny_isTrue_Compare1 (thn (h.run F H σ c pins s I) fun v s1 ⟨x, H1, I1, rx, F1, dx, S1, A1, g1, r1, h1⟩ => thn (h1.run F1 H1 σ (c.grow A1 g1) pins s1 I1) fun u s2 ⟨y, H2, I2, ry, F2, dy, S2, A2, g2, r2, z, ⟨r, hr, o⟩, q⟩ =>
    thn (hr pins s2 σ H2 x y v u (fun w H3 => w = .bl z ∧ BQ Γ S F H QB z H3) I2 rx ry (o S2 F2 H2 x y _ A2 (r1.mono g2.ex) r2 fun v' F' H' A' g' r' => by
      cases r'
      exact ⟨rfl, F', S2, A', (g1.trans g2).trans g', q⟩)) fun c s3 ⟨w, H3, I3, r3, e, q3⟩ => ?_) hm
  subst e
  cases r3
  exact wpAny_truthy_bool ⟨H3, I3, q3⟩
/-- a < b < c as a value, a test -/
theorem wE_chain {op op' : CmpOp} (h : wE Γ X B a ρ S fun x S1 => wE Γ X B b ρ S1 fun y S2 => ∃ z, CmpR Γ X op x y z ∧ (z = true → wE Γ X B c ρ S2 fun w S3 => ∃ z', CmpR Γ X op' y w z' ∧ Q (.bl z') S3) ∧ (z = false → Q (.bl false) S2))
    (hm : lastMarks [op, op'] [b, c] = false := by with_unfolding_all rfl) : wE Γ X B (.Compare a [op, op'] [b, c] pos) ρ S Q := .mk fun F H σ cf => by
  intro pins s I
  refine Compare_chain (thn (h.run F H σ cf pins s I) fun v s1 ⟨x, H1, I1, rx, F1, dx, S1, A1, g1, r1, h1⟩ => chain_link (thn (h1.run F1 H1 σ (cf.grow A1 g1) pins s1 I1) fun u s2 ⟨y, H2, I2, ry, F2, dy, S2, A2, g2, r2, z, ⟨r, hr, o⟩, qt, qf⟩ =>
    thn (hr pins s2 σ H2 x y v u (fun w H3 => w = .bl z ∧ ∃ F3, Ab Γ.K S2 F3 H3 ∧ Grow S2 F2 H2 S2 F3 H3) I2 rx ry (o S2 F2 H2 x y _ A2 (r1.mono g2.ex) r2 fun v' F' H' A' g' r' => by
      cases r'
      exact ⟨rfl, F', A', g'⟩)) fun d s3 ⟨w, H3, I3, r3, e, F3, A3, g3⟩ => ?_)) hm
  subst e
  cases r3
  refine wpAny_truthy_bool ?_
  have g03 := (g1.trans g2).trans g3
  cases z with
  | false => exact ite_ff ⟨.bl false, H3, I3, rfl, F3, _, S2, A3, g03, .bl false, qf rfl⟩
  | true => exact ite_tt (chain_last (thn ((qt rfl).run F3 H3 σ (cf.grow A3 g03) pins s3 I3) fun w' s4 ⟨z', H4, I4, r4, F4, dw, S4, A4, g4, rr4, zz, ⟨r', hr', o'⟩, q⟩ =>
      hr' pins s4 σ H4 y z' u w' _ I4 ry r4 (o' S4 F4 H4 y z' _ A4 (r2.mono (g3.trans g4).ex) rr4 fun v' F' H' A' g' r' => ⟨F', _, S4, A', (g03.trans g4).trans g', r', q⟩)))
theorem wT_chain {op op' : CmpOp} (h : wE Γ X B a ρ S fun x S1 => wE Γ X B b ρ S1 fun y S2 => ∃ z, CmpR Γ X op x y z ∧ (z = true → wE Γ X B c ρ S2 fun w S3 => ∃ z', CmpR Γ X op' y w z' ∧ QB z' S3) ∧ (z = false → QB false S2))
    (hm : lastMarks [op, op'] [b, c] = false := by with_unfolding_all rfl) : wT Γ X B (.Compare a [op, op'] [b, c] pos) ρ S QB := .mk fun F H σ cf => by
  intro pins s I
  refine isTrue_chain (thn (h.run F H σ cf pins s I) fun v s1 ⟨x, H1, I1, rx, F1, dx, S1, A1, g1, r1, h1⟩ => test_link (thn (h1.run F1 H1 σ (cf.grow A1 g1) pins s1 I1) fun u s2 ⟨y, H2, I2, ry, F2, dy, S2, A2, g2, r2, z, ⟨r, hr, o⟩, qt, qf⟩ =>
    thn (hr pins s2 σ H2 x y v u (fun w H3 => w = .bl z ∧ ∃ F3, Ab Γ.K S2 F3 H3 ∧ Grow S2 F2 H2 S2 F3 H3) I2 rx ry (o S2 F2 H2 x y _ A2 (r1.mono g2.ex) r2 fun v' F' H' A' g' r' => by
      cases r'
      exact ⟨rfl, F', A', g'⟩)) fun d s3 ⟨w, H3, I3, r3, e, F3, A3, g3⟩ => ?_)) hm
  subst e
  cases r3
  refine wpAny_truthy_bool ?_
  have g03 := (g1.trans g2).trans g3
  cases z with
  | false => exact ite_ff ⟨H3, I3, F3, S2, A3, g03, qf rfl⟩
  | true =>
    refine ite_tt (test_last (thn ((qt rfl).run F3 H3 σ (cf.grow A3 g03) pins s3 I3) fun w' s4 ⟨z', H4, I4, r4, F4, dw, S4, A4, g4, rr4, zz, ⟨r', hr', o'⟩, q⟩ =>
      thn (hr' pins s4 σ H4 y z' u w' (fun w H5 => w = .bl zz ∧ ∃ F5, Ab Γ.K S4 F5 H5 ∧ Grow S4 F4 H4 S4 F5 H5) I4 ry r4 (o' S4 F4 H4 y z' _ A4 (r2.mono (g3.trans g4).ex) rr4 fun v' F' H' A' g' r' => by
        cases r'
        exact ⟨rfl, F', A', g'⟩)) fun d5 s5 ⟨w5, H5, I5, r5, e5, F5, A5, g5⟩ => ?_))
    subst e5
    cases r5
    exact wpAny_truthy_bool ⟨H5, I5, F5, S4, A5, (g03.trans g4).trans g5, q⟩

/-- a datum's truth -/
inductive TruD : D → Bool → Prop
  | bl (b : Bool) : TruD (.bl b) b
  | non : TruD .non false
  | int (i : Int) : TruD (.int i) (i != 0)
  | str (s : List Nat) (h : s.length ≤ 100000) : TruD (.str s) (!s.isEmpty)
  | lst (xs : List D) : TruD (.lst xs) (!xs.isEmpty)
  | tup (xs : List D) : TruD (.tup xs) (!xs.isEmpty)
  | scr (ns : List Int) : TruD (.scr ns) (!ns.isEmpty)
theorem sz_le {n : Nat} (h : n ≤ 100000) : n ≤ sizeLine := Nat.le_trans h (by decide)
theorem sz_lt {n : Nat} (h : n ≤ 100000) : n < sizeLine := Nat.lt_of_le_of_lt h (by decide)
theorem isE_map {α β : Type} (f : α → β) (l : List α) : (l.map f).isEmpty = l.isEmpty := by cases l <;> rfl
theorem RepL.isE {K : PySem.W.Frag} {F : Hp} {v : List V} {d : List D} (r : RepL K F v d) : v.isEmpty = d.isEmpty := by
  cases r <;> rfl
theorem TruD.v {d : D} {z : Bool} (t : TruD d z) {K : PySem.W.Frag} {F H : Hp} (e : Ex F H) {v : V} (r : Rep K F v d) : TruV K v H z := by
  cases t with
  | bl b => cases r; rfl
  | non => cases r; rfl
  | int i => cases r; rfl
  | str s h =>
    cases r
    refine ⟨sz_le (by simpa [Str.length] using h), ?_⟩
    cases s with
    | nil => rfl
    | cons c s => simp [Str.length]; omega
  | lst xs =>
    cases r with
    | lst h r => exact .inl ⟨_, .inl (.inl (e _ _ h)), by rw [r.isE]⟩
  | tup xs =>
    cases r with
    | tup h r => exact .inr (.inl ⟨_, ex_sqt e h, by rw [r.isE]⟩)
  | scr ns =>
    cases r with
    | scr h => exact .inl ⟨_, ex_sql e h, by rw [isE_map]⟩
/-- any expression as a test -/
theorem wT_val (G : Gd Γ X N nm k B E) (h : wE Γ X B a ρ S fun x S1 => ∃ z, TruD x z ∧ QB z S1) (he : ∀ whole, isTrue a X.env whole = (do let v ← whole; standAt a.pos; holding [v] (truthy v)) := by intro _; rfl) : wT Γ X B a ρ S QB := .mk fun F H σ c => by
  refine (pt_truth pe_w he).tw ?_
  refine (h.run F H σ c).mono fun v H1 ⟨F1, x, S1, A1, g1, r1, z, t, q⟩ => ?_
  rw [G.hK]
  exact ⟨z, t.v A1.ex r1, F1, S1, A1, g1, q⟩
theorem wT_W (h : wW Γ X B a ρ S QB) : wT Γ X B a ρ S QB := .mk fun F H σ c => pw_w.pt.tw (h.run F H σ c)
theorem wW_and1 (h : wT Γ X B a ρ S QB) : wW Γ X B (.BoolOp .And [a] pos) ρ S QB := .mk fun F H σ c => (pw_and1 pt_w).tw (h.run F H σ c)
theorem wW_or1 (h : wT Γ X B a ρ S QB) : wW Γ X B (.BoolOp .Or [a] pos) ρ S QB := .mk fun F H σ c => (pw_or1 pt_w).tw (h.run F H σ c)
theorem wW_and (h : wT Γ X B a ρ S fun x S1 => (x = true → wW Γ X B (.BoolOp .And (b :: es) pos) ρ S1 QB) ∧ (x = false → QB false S1)) : wW Γ X B (.BoolOp .And (a :: b :: es) pos) ρ S QB := .mk fun F H σ c => by
  refine (pw_and pt_w pw_w).tw ((h.run F H σ c).mono fun v H1 ⟨F1, S1, A1, g1, qt, qf⟩ => ?_)
  cases v with
  | true => exact iteT (((qt rfl).run F1 H1 σ (c.grow A1 g1)).mono fun v H2 q => BQ.trans g1 q)
  | false => exact iteF ⟨F1, S1, A1, g1, qf rfl⟩
theorem wW_or (h : wT Γ X B a ρ S fun x S1 => (x = true → QB true S1) ∧ (x = false → wW Γ X B (.BoolOp .Or (b :: es) pos) ρ S1 QB)) : wW Γ X B (.BoolOp .Or (a :: b :: es) pos) ρ S QB := .mk fun F H σ c => by
  refine (pw_or pt_w pw_w).tw ((h.run F H σ c).mono fun v H1 ⟨F1, S1, A1, g1, qt, qf⟩ => ?_)
  cases v with
  | true => exact iteT ⟨F1, S1, A1, g1, qt rfl⟩
  | false => exact iteF (((qf rfl).run F1 H1 σ (c.grow A1 g1)).mono fun v H2 q => BQ.trans g1 q)
theorem wT_not (h : wT Γ X B a ρ S fun x S1 => QB (!x) S1) : wT Γ X B (.UnaryOp .Not a pos) ρ S QB := .mk fun F H σ c =>
  (pt_not pt_w).tw ((h.run F H σ c).mono fun v H1 q => q)
/-- the same as values -/
theorem wE_one {op : BoolOp} (h : wE Γ X B a ρ S Q) : wE Γ X B (.BoolOp op [a] pos) ρ S Q := .mk fun F H σ c => (pe_one pe_w).tw (h.run F H σ c)
theorem wE_and (h : wE Γ X B a ρ S fun x S1 => ∃ z, x = .bl z ∧ (z = true → wE Γ X B (.BoolOp .And (b :: es) pos) ρ S1 Q) ∧ (z = false → Q (.bl false) S1)) : wE Γ X B (.BoolOp .And (a :: b :: es) pos) ρ S Q := .mk fun F H σ c => by
  refine (pe_and pe_w pe_w).tw ((h.run F H σ c).mono fun v H1 ⟨F1, x, S1, A1, g1, r1, z, e, qt, qf⟩ => ?_)
  subst e
  cases r1
  refine ⟨z, rfl, ?_⟩
  cases z with
  | true => exact iteT (((qt rfl).run F1 H1 σ (c.grow A1 g1)).mono fun v H2 q => VQ.trans g1 q)
  | false => exact iteF ⟨F1, _, S1, A1, g1, .bl false, qf rfl⟩
theorem wE_or (h : wE Γ X B a ρ S fun x S1 => ∃ z, x = .bl z ∧ (z = true → Q (.bl true) S1) ∧ (z = false → wE Γ X B (.BoolOp .Or (b :: es) pos) ρ S1 Q)) : wE Γ X B (.BoolOp .Or (a :: b :: es) pos) ρ S Q := .mk fun F H σ c => by
  refine (pe_or pe_w pe_w).tw ((h.run F H σ c).mono fun v H1 ⟨F1, x, S1, A1, g1, r1, z, e, qt, qf⟩ => ?_)
  subst e
  cases r1
  refine ⟨z, rfl, ?_⟩
  cases z with
  | true => exact iteT ⟨F1, _, S1, A1, g1, .bl true, qt rfl⟩
  | false => exact iteF (((qf rfl).run F1 H1 σ (c.grow A1 g1)).mono fun v H2 q => VQ.trans g1 q)
theorem wE_not (h : wE Γ X B a ρ S fun x S1 => ∃ z, x = .bl z ∧ Q (.bl (!z)) S1) : wE Γ X B (.UnaryOp .Not a pos) ρ S Q := .mk fun F H σ c => by
  refine (pe_not pe_w).tw ((h.run F H σ c).mono fun v H1 ⟨F1, x, S1, A1, g1, r1, z, e, q⟩ => ?_)
  subst e
  cases r1
  exact ⟨z, rfl, F1, _, S1, A1, g1, .bl _, q⟩
theorem wE_if {t : Expr} (h : wT Γ X B t ρ S fun x S1 => (x = true → wE Γ X B a ρ S1 Q) ∧ (x = false → wE Γ X B b ρ S1 Q)) : wE Γ X B (.IfExp t a b pos) ρ S Q := .mk fun F H σ c => by
  refine (pe_ifExp pt_w pe_w pe_w).tw ((h.run F H σ c).mono fun v H1 ⟨F1, S1, A1, g1, qt, qf⟩ => ?_)
  cases v with
  | true => exact iteT (((qt rfl).run F1 H1 σ (c.grow A1 g1)).mono fun v H2 q => VQ.trans g1 q)
  | false => exact iteF (((qf rfl).run F1 H1 σ (c.grow A1 g1)).mono fun v H2 q => VQ.trans g1 q)
/-- -n -/
theorem wE_neg (h : wE Γ X B a ρ S fun x S1 => ∃ i, x = .int i ∧ Q (.int (-i)) S1) : wE Γ X B (.UnaryOp .USub a pos) ρ S Q := .mk fun F H σ c => by
  refine (pe_un un_neg pe_w).tw ((h.run F H σ c).mono fun v H1 ⟨F1, x, S1, A1, g1, r1, i, e, q⟩ => ?_)
  subst e
  cases r1
  exact ⟨i, rfl, F1, _, S1, A1, g1, .int _, q⟩

theorem wA_nil (q : QA [] S) : wA Γ X B [] ρ S QA := .mk fun F H σ c => pa_nil.tw ⟨F, [], S, c.1, Grow.refl S F H, .nil, q⟩
theorem wA_cons (h : wE Γ X B a ρ S fun x S1 => wA Γ X B es ρ S1 fun xs S2 => QA (x :: xs) S2) (hs : starEach (a :: es) X.env = (false, eval a X.env) :: starEach es X.env := by rfl) : wA Γ X B (a :: es) ρ S QA := .mk fun F H σ c => by
  refine (pa_cons pe_w pa_w hs).tw ((h.run F H σ c).mono fun v H1 ⟨F1, x, S1, A1, g1, r1, h1⟩ => ?_)
  exact (h1.run F1 H1 σ (c.grow A1 g1)).mono fun vs H2 ⟨F2, xs, S2, A2, g2, r2, q⟩ => ⟨F2, x :: xs, S2, A2, g1.trans g2, .cons (r1.mono g2.ex) r2, q⟩
/-- a tuple, a list of written items, frozen -/
theorem wE_tup {x1 : Nat} (h : wA Γ X B es ρ S fun xs S1 => xs.length ≤ 100000 ∧ Q (.tup xs) S1) : wE Γ X B (.Tuple es x1 pos) ρ S Q := .mk fun F H σ c => by
  refine (pe_tup pa_w).tw ((h.run F H σ c).mono fun vs H1 ⟨F1, xs, S1, A1, g1, r1, hl, q⟩ => ⟨sz_le (by rw [r1.length]; exact hl), fun p hp => ?_⟩)
  refine VQ.trans g1 (VQ.new A1 hp (.tup (SqT.of upd_same) (r1.mono ?_)) q)
  exact Evl.Ex.new (A1.fnone hp)
theorem wE_lst (h : wA Γ X B es ρ S fun xs S1 => xs.length ≤ 100000 ∧ Q (.lst xs) S1) : wE Γ X B (.List es pos) ρ S Q := .mk fun F H σ c => by
  refine (pe_lst pa_w).tw ((h.run F H σ c).mono fun vs H1 ⟨F1, xs, S1, A1, g1, r1, hl, q⟩ => ⟨sz_le (by rw [r1.length]; exact hl), fun p hp => ?_⟩)
  refine VQ.trans g1 (VQ.new A1 hp (.lst upd_same (r1.mono ?_)) q)
  exact Evl.Ex.new (A1.fnone hp)
end
end CR

end

section
namespace CR
open PySem PySem.Spec PyProof.Rows L2

/-- what a def does: arguments, the store, what is wanted of its value, of its exception (by the class) -/
abbrev FnS := List D → Sto → (D → Sto → Prop) → (Addr → Sto → Prop) → Prop
def spD (K : PySem.W.Frag) (Φ : FnS) : Sp := fun vs H Q E => ∃ S F ds QD QE, Ab K S F H ∧ RepL K F vs ds ∧ Φ ds S QD QE ∧
  (∀ v d S' F' H', Ab K S' F' H' → Grow S F H S' F' H' → Rep K F' v d → QD d S' → Q v H') ∧ (∀ C S' F' H', Ab K S' F' H' → Grow S F H S' F' H' → QE C S' → E (.ref C) none H')
abbrev OkD (Γ : Wd) (k : Nat) (f : Addr) (fd : FuncData) (ps : List Str) (Φ : FnS) : Prop := FnOk Γ.P Γ.w Γ.K Γ.mg Γ.base (L2.CX Γ.P Γ.w) k f fd ps (spD Γ.K Φ)
/-- a def of the module -/
structure Fn (Γ : Wd) (x : Str) (k : Nat) (Φ : FnS) : Prop where
  ex : ∃ f fd ps, Γ.mg x = some (.ref f) ∧ PySem.W.keepIn Γ.K (.ref f) = true ∧ Binds Γ.K fd ps [] ∧ OkD Γ k f fd ps Φ
/-- a method of the class at C -/
structure Mt (Γ : Wd) (C : Addr) (m : Str) (k : Nat) (Φ : FnS) : Prop where
  ex : ∃ f fd ps, Cls Γ.K C ∧ Meth Γ.K C m f ∧ Binds Γ.K fd ps [] ∧ OkD Γ k f fd ps Φ
/-- a class that is made by its own __init__ -/
structure Cn (Γ : Wd) (x : Str) (C : Addr) (k : Nat) (Φ : FnS) : Prop where
  ex : ∃ f fd ps, Γ.mg x = some (.ref C) ∧ Mk Γ.K C f ∧ Binds Γ.K fd ps [] ∧ OkD Γ k f fd ps Φ

section
variable {Γ : Wd} {X : Cx} {B : Bs} {e a b c o : Expr} {es : List Expr} {st : Stmt} {sts : List Stmt} {ρ : List Sl} {S : Sto} {N : List Str} {nm : List (Str × NameKind)} {k j : Nat} {E : EK} {pos p apos : Pos}
variable {F H F' H' : Hp} {S' : Sto} {σ : L2.St} {d : D} {Q : D → Sto → Prop} {QB : Bool → Sto → Prop} {QA : List D → Sto → Prop} {Dd : Dn} {x m : Str} {Φ : FnS}
theorem Gd.gl (G : Gd Γ X N nm k B E) (h : nm.lookup x = some .globalImplicit) : Gl X x := by unfold Gl Env.kindOf; rw [G.hn]; exact h
theorem OkD.at {f : Addr} {fd : FuncData} {ps : List Str} (G : Gd Γ X N nm k B E) (h : OkD Γ j f fd ps Φ) : FnOk X.prog X.w X.K X.mg X.base (L2.CX X.prog X.w) j f fd ps (spD Γ.K Φ) := by
  rw [G.hP, G.hw, G.hK, G.hm, G.hb]
  exact h
/-- the promise from the wanted -/
theorem sp_of {S1 : Sto} {F1 H1 : Hp} {vs : List V} {ds : List D} (c : Cf Γ B F H σ ρ S) (A1 : Ab Γ.K S1 F1 H1) (g1 : Grow S F H S1 F1 H1) (r : RepL Γ.K F1 vs ds) (φ : Φ ds S1 Q (fun C S2 => E C ρ S2)) :
    spD Γ.K Φ vs H1 (VQ Γ S F H Q) (L2.WE (LX Γ.K B E) σ) :=
  ⟨S1, F1, ds, Q, fun C S2 => E C ρ S2, A1, r, φ, fun v d S' F' H' A' g' r' q => ⟨F', d, S', A', g1.trans g', r', q⟩,
    fun C S' F' H' A' g' q => ⟨C, ρ, S', F', rfl, rfl, A', c.2.1.grow (g1.trans g'), c.2.2.trans (g1.trans g'), q⟩⟩
/-- f(e, ..) -/
theorem wE_call (G : Gd Γ X N nm k B E) (h : Fn Γ x j Φ) (hj : j ≤ k) (hg : nm.lookup x = some .globalImplicit) (ha : wA Γ X B (e :: es) ρ S fun ds S1 => Φ ds S1 Q (fun C S2 => E C ρ S2)) (hdb : (x == ("__debug__" : Str)) = false := by decide)
    (he : starEach (e :: es) X.env = (false, eval e X.env) :: starEach es X.env := by rfl) (hpl : (backTo pos (starEach es X.env)).any (·.1) = false := by rfl) : wE Γ X B (.Call (.Name x p) (e :: es) [] pos) ρ S Q := .mk fun F H σ c => by
  obtain ⟨f, fd, ps, h1, h2, h3, h4⟩ := h.ex
  intro pins s I
  refine wpAny_Call_Name_kw (ld_glob I (G.gl hg) (by rw [G.hm]; exact h1) ?_ hdb)
  refine PySem.W.callWith_K (h₀ := X.base) I.ok.mod.kin (by rw [G.hK]; exact h2) (thn (ha.run F H σ c pos pins s I) fun us s1 ⟨vs, H1, I1, r, F1, ds, S1, A1, g1, rl, φ⟩ => ⟨I1.kIn, ?_⟩) he hpl
  exact run_fnS (E := L2.WE (LX Γ.K B E)) (h4.at G) (G.room.mono hj) (by rw [G.hK]; exact h3) (passAt G.tk σ) I1 r (sp_of c A1 g1 rl φ)
theorem wE_call0 (G : Gd Γ X N nm k B E) (h : Fn Γ x j Φ) (hj : j ≤ k) (hg : nm.lookup x = some .globalImplicit) (ha : Φ [] S Q (fun C S2 => E C ρ S2)) (hdb : (x == ("__debug__" : Str)) = false := by decide) : wE Γ X B (.Call (.Name x p) [] [] pos) ρ S Q := .mk fun F H σ c => by
  obtain ⟨f, fd, ps, h1, h2, h3, h4⟩ := h.ex
  intro pins s I
  refine wpAny_Call_Name_kw (ld_glob I (G.gl hg) (by rw [G.hm]; exact h1) ?_ hdb)
  refine PySem.W.callWith_K0 (first := []) I.kIn (by rw [G.hK]; exact h2) ?_
  exact run_fnS (E := L2.WE (LX Γ.K B E)) (h4.at G) (G.room.mono hj) (by rw [G.hK]; exact h3) (passAt G.tk σ) I .nil (sp_of c c.1 (Grow.refl S F H) .nil ha)
/-- who may be asked by a method: an instance of the store, a frozen one -/
def Recv (C : Addr) (m : Str) (x : D) (S : Sto) : Prop := (∃ a fs, x = .ref a ∧ S a = some (.ins C fs) ∧ fs.lookup m = none) ∨ ∃ fs, x = .obj C fs ∧ fs.lookup m = none
theorem Recv.at {K : PySem.W.Frag} {C : Addr} {d : D} (r : Recv C m d S) (A : Ab K S F H) {v : V} (q : Rep K F v d) : ∃ a dx fs, v = .ref a ∧ H a = some (.ins C dx fs) ∧ fs.lookup m = none := by
  rcases r with ⟨a, fs, rfl, h1, h2⟩ | ⟨fs, rfl, h2⟩
  · cases q
    obtain ⟨_, dx, vs, h3, h4⟩ := A.st a _ h1
    exact ⟨a, dx, vs, rfl, h3, h4.lookN h2⟩
  · cases q with
    | obj h r => exact ⟨_, _, _, rfl, A.ex _ _ h, r.lookN h2⟩
/-- o.m(e, ..) -/
theorem wE_meth {C : Addr} {pl : Sem Bool} (G : Gd Γ X N nm k B E) (h : Mt Γ C m j Φ) (hj : j ≤ k) (ho : wE Γ X B o ρ S fun x S1 => Recv C m x S1 ∧ wA Γ X B (e :: es) ρ S1 fun ds S2 => Φ (x :: ds) S2 Q (fun C S2 => E C ρ S2))
    (hst : starEach (e :: es) X.env = (false, eval e X.env) :: starEach es X.env := by rfl) (hpl : (backTo pos (starEach es X.env)).any (·.1) = false := by rfl)
    (ht : eval (.Call (.Attribute o m apos) (e :: es) [] pos) X.env = (do
      let ov ← eval o X.env
      standAt apos.atName
      let (f, first) ← holding [ov] (getMethod ov m pl)
      callWith pos f first (backTo pos (starEach (e :: es) X.env)) (backToKw pos (keywordEach [] X.env))) := by rfl) : wE Γ X B (.Call (.Attribute o m apos) (e :: es) [] pos) ρ S Q := .mk fun F H σ c => by
  obtain ⟨f, fd, ps, h1, h2, h3, h4⟩ := h.ex
  intro pins s I
  refine PySem.W.methodCall_KW (pl := pl) (thn (ho.run F H σ c pins s I) fun u s1 ⟨v, H1, I1, rv, F1, d, S1, A1, g1, r1, rec, ha⟩ => ?_) ht
  obtain ⟨a, dx, fs, ev, eH, l⟩ := rec.at A1 r1
  subst ev
  obtain rfl : u = Value.ref a := rv
  refine getmeth_ok I1 eH (by rw [G.hK]; exact h1) (by rw [G.hK]; exact h2) l ?_
  refine PySem.W.callWith_K (first := [.ref a]) (h₀ := X.base) I.ok.mod.kin (by rw [G.hK]; exact h2.kp) (thn (ha.run F1 H1 σ (c.grow A1 g1) pos pins s1 I1) fun us s2 ⟨vs, H2, I2, r, F2, ds, S2, A2, g2, rl, φ⟩ => ⟨I2.kIn, ?_⟩) hst hpl
  exact run_fnS (us := .ref a :: us) (vs := .ref a :: vs) (E := L2.WE (LX Γ.K B E)) (h4.at G) (G.room.mono hj) (by rw [G.hK]; exact h3) (passAt G.tk σ) I2 (.cons rfl r) (sp_of c A2 (g1.trans g2) (.cons (r1.mono g2.ex) rl) φ)
theorem wE_meth0 {C : Addr} {pl : Sem Bool} (G : Gd Γ X N nm k B E) (h : Mt Γ C m j Φ) (hj : j ≤ k) (ho : wE Γ X B o ρ S fun x S1 => Recv C m x S1 ∧ Φ [x] S1 Q (fun C S2 => E C ρ S2))
    (ht : eval (.Call (.Attribute o m apos) [] [] pos) X.env = (do
      let ov ← eval o X.env
      standAt apos.atName
      let (f, first) ← holding [ov] (getMethod ov m pl)
      callWith pos f first (backTo pos (starEach [] X.env)) (backToKw pos (keywordEach [] X.env))) := by rfl) : wE Γ X B (.Call (.Attribute o m apos) [] [] pos) ρ S Q := .mk fun F H σ c => by
  obtain ⟨f, fd, ps, h1, h2, h3, h4⟩ := h.ex
  intro pins s I
  refine PySem.W.methodCall_KW (pl := pl) (thn (ho.run F H σ c pins s I) fun u s1 ⟨v, H1, I1, rv, F1, d, S1, A1, g1, r1, rec, φ⟩ => ?_) ht
  obtain ⟨a, dx, fs, ev, eH, l⟩ := rec.at A1 r1
  subst ev
  obtain rfl : u = Value.ref a := rv
  refine getmeth_ok I1 eH (by rw [G.hK]; exact h1) (by rw [G.hK]; exact h2) l ?_
  refine PySem.W.callWith_K0 (first := [.ref a]) I1.kIn (by rw [G.hK]; exact h2.kp) ?_
  exact run_fnS (us := [.ref a]) (vs := [.ref a]) (E := L2.WE (LX Γ.K B E)) (h4.at G) (G.room.mono hj) (by rw [G.hK]; exact h3) (passAt G.tk σ) I1 (.cons rfl .nil) (sp_of c A1 g1 (.cons r1 .nil) φ)

structure Fld (Γ : Wd) (C : Addr) (f : Str) : Prop where
  cl : Cls Γ.K C
  no : NoAttr Γ.K C f
/-- o.f -/
theorem wE_fld {f : Str} (G : Gd Γ X N nm k B E) (h : wE Γ X B o ρ S fun x S1 => ∃ C fs d, ((∃ a, x = .ref a ∧ S1 a = some (.ins C fs)) ∨ x = .obj C fs) ∧ Fld Γ C f ∧ fs.lookup f = some d ∧ Q d S1)
    (hb : attributeBase o f X.env (eval o X.env) = eval o X.env := by rfl) : wE Γ X B (.Attribute o f pos) ρ S Q := .mk fun F H σ c => by
  refine (pe_fld pe_w hb).tw ((h.run F H σ c).mono fun v H1 ⟨F1, x, S1, A1, g1, r1, C, fs, d, hx, fl, hd, q⟩ => ?_)
  rw [G.hK]
  rcases hx with ⟨a, rfl, hS⟩ | rfl
  · cases r1
    obtain ⟨_, dx, vs, h3, h4⟩ := A1.st a _ hS
    obtain ⟨y, h5, h6⟩ := h4.look hd
    exact ⟨a, C, dx, vs, y, rfl, h3, fl.cl, fl.no, h5, F1, d, S1, A1, g1, h6, q⟩
  · cases r1 with
    | obj h r =>
      obtain ⟨y, h5, h6⟩ := r.look hd
      exact ⟨_, C, _, _, y, rfl, A1.ex _ _ h, fl.cl, fl.no, h5, F1, d, S1, A1, g1, h6, q⟩

/-- what a call of a built-in gives, the store as it is -/
def OpA (Γ : Wd) (r : List V → Hp → VK → Prop) (xs : List D) (z : D) : Prop := ∀ (S : Sto) (F H : Hp) (vs : List V) (Qv : VK), Ab Γ.K S F H → RepL Γ.K F vs xs → (∀ v' F' H', Ab Γ.K S F' H' → Grow S F H S F' H' → Rep Γ.K F' v' z → Qv v' H') → r vs H Qv
structure BltR (Γ : Wd) (X : Cx) (f : Value) (xs : List D) (z : D) : Prop where
  ex : ∃ r, CallR X f r ∧ OpA Γ r xs z
theorem wE_blt {id : String} (G : Gd Γ X N nm k B E) (hg : nm.lookup x = some .globalImplicit) (hm : Γ.mg x = none) (hv : bootBuiltins x = some (.builtin id)) (ha : wA Γ X B (e :: es) ρ S fun ds S1 => ∃ z, BltR Γ X (.builtin id) ds z ∧ Q z S1)
    (hn : x ≠ "__name__" := by decide) (hdb : (x == ("__debug__" : Str)) = false := by decide) (he : starEach (e :: es) X.env = (false, eval e X.env) :: starEach es X.env := by rfl) (hpl : (backTo pos (starEach es X.env)).any (·.1) = false := by rfl) :
    wE Γ X B (.Call (.Name x p) (e :: es) [] pos) ρ S Q := .mk fun F H σ c => by
  intro pins s I
  refine wpAny_Call_Name_kw (ld_blt I (G.gl hg) (by rw [G.hm]; exact hm) hv ?_ hn hdb)
  exact PyProof.Rows.callWith_builtin1 (thn (ha.run F H σ c pos pins s I) fun us s1 ⟨vs, H1, I1, rv, F1, ds, S1, A1, g1, rl, z, ⟨r, hr, o⟩, q⟩ =>
    hr pins s1 σ H1 vs us _ I1 rv (o S1 F1 H1 vs _ A1 rl fun v' F' H' A' g' r' => ⟨F', z, S1, A', g1.trans g', r', q⟩)) he hpl
theorem wE_bty {T : String} (G : Gd Γ X N nm k B E) (hg : nm.lookup x = some .globalImplicit) (hm : Γ.mg x = none) (hv : bootBuiltins x = some (.type T)) (ha : wA Γ X B (e :: es) ρ S fun ds S1 => ∃ z, BltR Γ X (.type T) ds z ∧ Q z S1)
    (hn : x ≠ "__name__" := by decide) (hdb : (x == ("__debug__" : Str)) = false := by decide) (he : starEach (e :: es) X.env = (false, eval e X.env) :: starEach es X.env := by rfl) (hpl : (backTo pos (starEach es X.env)).any (·.1) = false := by rfl) :
    wE Γ X B (.Call (.Name x p) (e :: es) [] pos) ρ S Q := .mk fun F H σ c => by
  intro pins s I
  refine wpAny_Call_Name_kw (ld_blt I (G.gl hg) (by rw [G.hm]; exact hm) hv ?_ hn hdb)
  exact PyProof.Rows.callWith_type1 (thn (ha.run F H σ c pos pins s I) fun us s1 ⟨vs, H1, I1, rv, F1, ds, S1, A1, g1, rl, z, ⟨r, hr, o⟩, q⟩ =>
    hr pins s1 σ H1 vs us _ I1 rv (o S1 F1 H1 vs _ A1 rl fun v' F' H' A' g' r' => ⟨F', z, S1, A', g1.trans g', r', q⟩)) he hpl

theorem wSs_nil (q : Dd.nx ρ S) : wSs Γ X B [] ρ S Dd := .mk fun F H σ c => pss_nil.tw ⟨ρ, S, F, c, ex_r F, q⟩
theorem wSs_cons (h : wS Γ X B st ρ S { Dd with nx := fun ρ' S' => wSs Γ X B sts ρ' S' Dd }) : wSs Γ X B (st :: sts) ρ S Dd := .mk fun F H σ c => by
  refine (pss_cons ps_w pss_w).tw ?_
  refine (h.run F H σ c).mono ⟨fun σ' H' ⟨ρ', S', F', c', e', q⟩ => (wSs.run q F' H' σ' c').mono (lift_le e'), fun _ _ q => q, fun _ _ q => q, fun _ _ q => q⟩
theorem wSs.mono {D1 D2 : Dn} (h : wSs Γ X B sts ρ S D1) (n : ∀ ρ S, D1.nx ρ S → D2.nx ρ S) (r : ∀ d S, D1.rt d S → D2.rt d S) (b : ∀ ρ S, D1.bk ρ S → D2.bk ρ S) (t : ∀ ρ S, D1.ct ρ S → D2.ct ρ S) : wSs Γ X B sts ρ S D2 := .mk fun F H σ c => (h.run F H σ c).mono
  ⟨fun _ _ ⟨ρ, S, F1, c, e, q⟩ => ⟨ρ, S, F1, c, e, n _ _ q⟩, fun _ _ ⟨d, S, F1, A, g, rr, q⟩ => ⟨d, S, F1, A, g, rr, r _ _ q⟩, fun _ _ ⟨ρ, S, F1, c, e, q⟩ => ⟨ρ, S, F1, c, e, b _ _ q⟩, fun _ _ ⟨ρ, S, F1, c, e, q⟩ => ⟨ρ, S, F1, c, e, t _ _ q⟩⟩
theorem wS_pass (q : Dd.nx ρ S) : wS Γ X B (.Pass pos) ρ S Dd := .mk fun F H σ c => ps_pass.tw ⟨ρ, S, F, c, ex_r F, q⟩
theorem wS_expr (h : wE Γ X B a ρ S fun _ S1 => Dd.nx ρ S1) (hs : swapsWith a none pos.line X.env = pure false := by rfl) : wS Γ X B (.Expr a pos) ρ S Dd := .mk fun F H σ c =>
  (ps_expr pe_w hs).tw ((h.run F H σ c).mono fun v H1 ⟨F1, x, S1, A1, g1, r1, q⟩ => ⟨ρ, S1, F1, c.grow A1 g1, g1.ex, q⟩)
theorem wS_ret (h : wE Γ X B a ρ S Dd.rt) : wS Γ X B (.Return (some a) pos) ρ S Dd := .mk fun F H σ c =>
  (ps_ret pe_w).tw ((h.run F H σ c).mono fun v H1 ⟨F1, x, S1, A1, g1, r1, q⟩ => ⟨x, S1, F1, A1, c.2.2.trans g1, r1, q⟩)
theorem wS_retN (q : Dd.rt .non S) : wS Γ X B (.Return none pos) ρ S Dd := .mk fun F H σ c => ps_retN.tw ⟨.non, S, F, c.1, c.2.2, .non, q⟩
theorem wS_if {t : Expr} {s1 s2 : List Stmt} (h : wT Γ X B t ρ S fun z S1 => (z = true → wSs Γ X B s1 ρ S1 Dd) ∧ (z = false → wSs Γ X B s2 ρ S1 Dd)) : wS Γ X B (.If t s1 s2 pos) ρ S Dd := .mk fun F H σ c => by
  refine (ps_if pt_w pss_w pss_w).tw ((h.run F H σ c).mono fun z H1 ⟨F1, S1, A1, g1, qt, qf⟩ => ?_)
  cases z with
  | true => exact iteT (((qt rfl).run F1 H1 σ (c.grow A1 g1)).mono (lift_le g1.ex))
  | false => exact iteF (((qf rfl).run F1 H1 σ (c.grow A1 g1)).mono (lift_le g1.ex))
/-- a name takes a value -/
theorem wS_set {i : Nat} {px : Pos} (G : Gs Γ X N nm k B E) (hi : N[i]? = some x) (hx : nm.lookup x = some .local ∨ nm.lookup x = some .cell) (h : wE Γ X B a ρ S fun d S1 => Dd.nx (ρ.set i (.val d)) S1) (hs : swapsWith a (some (.Name x px)) pos.line X.env = pure false := by rfl) :
    wS Γ X B (.Assign [.Name x px] a pos) ρ S Dd := .mk fun F H σ c => by
  refine (ps_set (i := i) (by rw [G.g.hN]; exact G.g.nd) (by rw [G.g.hN]; exact hi) (by unfold L2.Loc; rw [G.g.hn]; exact hx) pe_w hs (.inl (G.fn x))).tw ?_
  refine (h.run F H σ c).mono fun v H1 ⟨F1, d, S1, A1, g1, r1, q⟩ => ?_
  have c1 := c.grow A1 g1
  exact ⟨_, S1, F1, ⟨A1, c1.2.1.set i r1, c1.2.2⟩, g1.ex, q⟩
end
end CR

end

section
namespace CR
open PySem PySem.Spec PyProof.Rows L2

section
variable {Γ : Wd} {X : Cx} {B : Bs} {e a b c o : Expr} {es : List Expr} {st : Stmt} {sts : List Stmt} {ρ ρ' : List Sl} {S : Sto} {N : List Str} {nm : List (Str × NameKind)} {k j : Nat} {E : EK} {pos p apos : Pos}
variable {F H F' H' : Hp} {S' : Sto} {σ : L2.St} {d : D} {Q : D → Sto → Prop} {QB : Bool → Sto → Prop} {QA : List D → Sto → Prop} {Dd : Dn} {x m : Str} {Φ : FnS} {i : Nat}

/-- a slot takes a loose list that no other slot holds -/
theorem ER.own {l : Addr} {vs : List V} {xs : List D} (r : ER Γ.K B.H S F H σ ρ) (i : Nat) (h : H l = some (.lst vs)) (q : RepL Γ.K F vs xs) (hf : F l = none) (hs : S l = none) (hb : B.H l = none) (new : ∀ (j : Nat) (ys : List D), j ≠ i → ρ[j]? = some (.own ys) → σ[j]? ≠ some (some (.ref l))) :
    ER Γ.K B.H S F H (σ.set i (some (.ref l))) (ρ.set i (.own xs)) where
  len := by rw [List.length_set, List.length_set, r.len]
  at_ := fun j s hj => by
    by_cases e : i = j
    · subst e
      by_cases hi : i < ρ.length
      · rw [List.getElem?_set_self hi] at hj
        have h2 := Option.some.inj hj
        subst h2
        exact ⟨some (.ref l), List.getElem?_set_self (by rw [r.len]; exact hi), l, vs, rfl, h, q, hf, hs, hb⟩
      · rw [List.getElem?_eq_none (by rw [List.length_set]; omega)] at hj
        cases hj
    · rw [List.getElem?_set_ne e] at hj ⊢
      exact r.at_ j s hj
  sep := fun a b l' ys zs h1 h2 h3 h4 => by
    by_cases ea : i = a
    · by_cases eb : i = b
      · rw [← ea, ← eb]
      · rw [List.getElem?_set_ne eb] at h2 h4
        subst ea
        by_cases hi : i < σ.length
        · rw [List.getElem?_set_self hi] at h3
          have h5 : l = l' := by
            have := Option.some.inj (Option.some.inj h3)
            injection this
          subst h5
          exact absurd h4 (new b zs (Ne.symm eb) h2)
        · rw [List.getElem?_eq_none (by rw [List.length_set]; omega)] at h3
          cases h3
    · rw [List.getElem?_set_ne ea] at h1 h3
      by_cases eb : i = b
      · subst eb
        by_cases hi : i < σ.length
        · rw [List.getElem?_set_self hi] at h4
          have h5 : l = l' := by
            have := Option.some.inj (Option.some.inj h4)
            injection this
          subst h5
          exact absurd h3 (new a ys (Ne.symm ea) h1)
        · rw [List.getElem?_eq_none (by rw [List.length_set]; omega)] at h4
          cases h4
      · rw [List.getElem?_set_ne eb] at h2 h4
        exact r.sep a b l' ys zs h1 h2 h3 h4
theorem ER.own_at {xs : List D} (r : ER Γ.K B.H S F H σ ρ) (h : ρ[i]? = some (.own xs)) : ∃ l vs, σ[i]? = some (some (.ref l)) ∧ H l = some (.lst vs) ∧ RepL Γ.K F vs xs ∧ F l = none ∧ S l = none ∧ B.H l = none := by
  obtain ⟨ov, h1, l, vs, rfl, h2⟩ := r.at_ i _ h
  exact ⟨l, vs, h1, h2⟩
/-- x = [e, ..], a list of the slot's own -/
theorem wS_setOwn {px pl : Pos} (G : Gs Γ X N nm k B E) (hi : N[i]? = some x) (hx : nm.lookup x = some .local ∨ nm.lookup x = some .cell) (h : wA Γ X B es ρ S fun xs S1 => xs.length ≤ 100000 ∧ Dd.nx (ρ.set i (.own xs)) S1) :
    wS Γ X B (.Assign [.Name x px] (.List es pl) pos) ρ S Dd := .mk fun F H σ c => by
  refine (ps_set (i := i) (by rw [G.g.hN]; exact G.g.nd) (by rw [G.g.hN]; exact hi) (by unfold L2.Loc; rw [G.g.hn]; exact hx) (pe_lst pa_w) rfl (.inl (G.fn x))).tw ?_
  refine (h.run F H σ c).mono fun vs H1 ⟨F1, xs, S1, A1, g1, r1, hl, q⟩ => ⟨sz_le (by rw [r1.length]; exact hl), fun p hp => ?_⟩
  have c1 := c.grow A1 g1
  have g2 := A1.g_loose (o := .lst vs) hp
  have c2 := c1.grow (A1.loose hp) g2
  refine ⟨_, S1, F1, ⟨A1.loose hp, c2.2.1.own i upd_same r1 (A1.fnone hp) (A1.snone hp) (Grow.back c1.2.2 hp) fun j ys _ h1 h2 => ?_, c2.2.2⟩, g1.ex, q⟩
  obtain ⟨l, vs', h3, h4, _⟩ := c1.2.1.own_at h1
  rw [h3] at h2
  have h5 : l = p := by
    have := Option.some.inj (Option.some.inj h2)
    injection this
  rw [h5, hp] at h4
  cases h4
/-- what stands in a slot's own list changes -/
theorem Cf.ownW {l : Addr} {vs ws : List V} {xs ys : List D} (c : Cf Γ B F H σ ρ S) (h : ρ[i]? = some (.own xs)) (h1 : σ[i]? = some (some (.ref l))) (h3 : F l = none) (h4 : S l = none) (h5 : H l = some (.lst vs)) (q : RepL Γ.K F ws ys) (hB : B.H l = none) :
    Cf Γ B F (upd H l (.lst ws)) σ (ρ.set i (.own ys)) S := by
  have hi : i < ρ.length := (List.getElem?_eq_some_iff.mp h).1
  refine ⟨⟨fun a o e => ?_, fun a o e => ?_⟩, ⟨?_, fun j s hj => ?_, fun a b l' us zs k1 k2 k3 k4 => ?_⟩, ⟨c.2.2.ex, fun a o e n => ?_, c.2.2.nf, c.2.2.ns, fun a o e => ?_⟩⟩
  · have ne : a ≠ l := fun z => by
      rw [z, h3] at e
      cases e
    rw [upd_ne ne]
    exact c.1.ex a o e
  · have ne : a ≠ l := fun z => by
      rw [z, h4] at e
      cases e
    exact ⟨(c.1.st a o e).1, (c.1.st a o e).2.mono (Evl.Ex.refl F) (upd_ne ne)⟩
  · rw [List.length_set]; exact c.2.1.len
  · by_cases e : i = j
    · subst e
      rw [List.getElem?_set_self hi] at hj
      have h2 := Option.some.inj hj
      subst h2
      exact ⟨_, h1, l, ws, rfl, upd_same, q, h3, h4, hB⟩
    · rw [List.getElem?_set_ne e] at hj
      obtain ⟨ov, k1, k2⟩ := c.2.1.at_ j s hj
      refine ⟨ov, k1, ?_⟩
      cases s with
      | no => trivial
      | val d => exact k2
      | own zs =>
        obtain ⟨l2, vs2, rfl, k4, k5, k6, k7⟩ := k2
        have ne : l2 ≠ l := fun z => by
          subst z
          exact e (c.2.1.sep i j l2 xs zs h hj h1 k1)
        exact ⟨l2, vs2, rfl, by rw [upd_ne ne]; exact k4, k5, k6, k7⟩
  · have fix : ∀ (z : Nat) (us : List D), (ρ.set i (.own ys))[z]? = some (.own us) → ∃ us', ρ[z]? = some (.own us') := fun z us kz => by
      by_cases e : i = z
      · subst e
        exact ⟨xs, h⟩
      · rw [List.getElem?_set_ne e] at kz
        exact ⟨us, kz⟩
    obtain ⟨u1, q1⟩ := fix a us k1
    obtain ⟨u2, q2⟩ := fix b zs k2
    exact c.2.1.sep a b l' u1 u2 q1 q2 k3 k4
  · have ne : a ≠ l := fun z => by
      rw [z, hB] at e
      cases e
    rw [upd_ne ne]
    exact c.2.2.fr a o e n
  · by_cases ne : a = l
    · exact ⟨_, by rw [ne]; exact upd_same⟩
    · obtain ⟨o', z⟩ := c.2.2.th a o e
      exact ⟨o', by rw [upd_ne ne]; exact z⟩
/-- x.append(e), x's list the slot's own -/
theorem wS_append {px pa : Pos} (G : Gs Γ X N nm k B E) (hi : N[i]? = some x) (hv : nm.lookup x = some .local ∨ nm.lookup x = some .cell ∨ nm.lookup x = some .free) {xs : List D} (hs : ρ[i]? = some (.own xs)) (hl : xs.length < 100000)
    (h : wE Γ X B a ρ S fun d S1 => Dd.nx (ρ.set i (.own (xs ++ [d]))) S1) (hd : (x == ("__debug__" : Str)) = false := by decide) (hcd : (x == ("__classdict__" : Str)) = false := by decide)
    (hfew : ((backTo p (starEach [a] X.env)).all (fun x => !x.1) && (backToKw p (keywordEach [] X.env)).all (fun x => x.1.isSome)
      && decide ([a].length + ([] : List Keyword).length + (if ([] : List Keyword).isEmpty then 0 else 1) < 30)) = true := by rfl)
    (hline : (pa.endLine == p.line) = true := by rfl) (hst : starEach [a] X.env = (false, eval a X.env) :: starEach [] X.env := by rfl) :
    wS Γ X B (.Expr (.Call (.Attribute (.Name x px) "append" pa) [a] [] p) pos) ρ S Dd := .mk fun F H σ c => by
  have hi' : X.N[i]? = some x := by rw [G.g.hN]; exact hi
  have hv' : Vis X.env.scope x := by unfold Vis; rw [G.g.hn]; exact hv
  refine (ps_expr (pe_bm PySem.F.plainAttrs_list PySem.F.slot_list_append PySem.F.type_list_append mt_append (pe_var hi' hv' hd hcd) (pa_cons pe_w pa_nil hst) rfl hfew hline hst rfl) rfl).tw ?_
  obtain ⟨l, vs, h1, h2, h3, h4, h5, h6⟩ := c.2.1.own_at hs
  refine ⟨.ref l, h1, .inl ⟨rfl, _, SqL.of h2⟩, ?_⟩
  refine (h.run F H σ c).mono fun v H1 ⟨F1, d, S1, A1, g1, r1, q⟩ => ?_
  have c1 := c.grow A1 g1
  have h2' := g1.fr _ _ h2 h5
  refine ⟨l, vs, v, rfl, rfl, h2', sz_lt (by rw [h3.length]; omega), ?_⟩
  exact ⟨_, S1, F1, c1.ownW hs h1 (g1.nf _ _ h2 h4) (g1.ns _ _ h2 h5) h2' ((h3.mono g1.ex).append (.cons r1 .nil)) h6, g1.ex, q⟩
/-- x.extend(e), e a frozen list -/
theorem wS_extend {px pa : Pos} (G : Gs Γ X N nm k B E) (hi : N[i]? = some x) (hv : nm.lookup x = some .local ∨ nm.lookup x = some .cell ∨ nm.lookup x = some .free) {xs : List D} (hs : ρ[i]? = some (.own xs))
    (h : wE Γ X B a ρ S fun d S1 => ∃ ys, d = .lst ys ∧ xs.length + ys.length ≤ 100000 ∧ Dd.nx (ρ.set i (.own (xs ++ ys))) S1) (hd : (x == ("__debug__" : Str)) = false := by decide) (hcd : (x == ("__classdict__" : Str)) = false := by decide)
    (hfew : ((backTo p (starEach [a] X.env)).all (fun x => !x.1) && (backToKw p (keywordEach [] X.env)).all (fun x => x.1.isSome)
      && decide ([a].length + ([] : List Keyword).length + (if ([] : List Keyword).isEmpty then 0 else 1) < 30)) = true := by rfl)
    (hline : (pa.endLine == p.line) = true := by rfl) (hst : starEach [a] X.env = (false, eval a X.env) :: starEach [] X.env := by rfl) :
    wS Γ X B (.Expr (.Call (.Attribute (.Name x px) "extend" pa) [a] [] p) pos) ρ S Dd := .mk fun F H σ c => by
  have hi' : X.N[i]? = some x := by rw [G.g.hN]; exact hi
  have hv' : Vis X.env.scope x := by unfold Vis; rw [G.g.hn]; exact hv
  refine (ps_expr (pe_bm PySem.F.plainAttrs_list PySem.F.slot_list_extend PySem.F.type_list_extend mt_extend (pe_var hi' hv' hd hcd) (pa_cons pe_w pa_nil hst) rfl hfew hline hst rfl) rfl).tw ?_
  obtain ⟨l, vs, h1, h2, h3, h4, h5, h6⟩ := c.2.1.own_at hs
  refine ⟨.ref l, h1, .inl ⟨rfl, _, SqL.of h2⟩, ?_⟩
  refine (h.run F H σ c).mono fun v H1 ⟨F1, d, S1, A1, g1, r1, ys, e, hz, q⟩ => ?_
  subst e
  have c1 := c.grow A1 g1
  have h2' := g1.fr _ _ h2 h5
  cases r1 with
  | lst hB rB =>
    refine ⟨l, _, vs, _, rfl, rfl, h2', A1.ex _ _ hB, sz_le (by rw [h3.length, rB.length]; exact hz), ?_⟩
    exact ⟨_, S1, F1, c1.ownW hs h1 (g1.nf _ _ h2 h4) (g1.ns _ _ h2 h5) h2' ((h3.mono g1.ex).append rB) h6, g1.ex, q⟩
/-- the slot's own list is frozen -/
theorem Cf.frz {xs : List D} (c : Cf Γ B F H σ ρ S) (hs : ρ[i]? = some (.own xs)) : ∃ F', Cf Γ B F' H σ (ρ.set i (.val (.lst xs))) S ∧ Ex F F' := by
  obtain ⟨l, vs, h1, h2, h3, h4, h5, h6⟩ := c.2.1.own_at hs
  have ee := Evl.Ex.new (o := .lst vs) h4
  have A' := c.1.freeze h2 h4 h5
  refine ⟨upd F l (.lst vs), ⟨A', ⟨by rw [List.length_set]; exact c.2.1.len, fun j s hj => ?_, fun a b l' us zs k1 k2 k3 k4 => ?_⟩, ⟨c.2.2.ex.trans ee, c.2.2.fr, fun a o e n => ?_, c.2.2.ns, c.2.2.th⟩⟩, ee⟩
  · have hi : i < ρ.length := (List.getElem?_eq_some_iff.mp hs).1
    by_cases e : i = j
    · subst e
      rw [List.getElem?_set_self hi] at hj
      have h7 := Option.some.inj hj
      subst h7
      exact ⟨_, h1, .ref l, rfl, .lst upd_same (h3.mono ee)⟩
    · rw [List.getElem?_set_ne e] at hj
      obtain ⟨ov, k1, k2⟩ := c.2.1.at_ j s hj
      refine ⟨ov, k1, ?_⟩
      cases s with
      | no => trivial
      | val d => obtain ⟨v, q1, q2⟩ := k2; exact ⟨v, q1, q2.mono ee⟩
      | own zs =>
        obtain ⟨l2, vs2, rfl, k4, k5, k6, k7, k8⟩ := k2
        have ne : l2 ≠ l := fun z => by
          subst z
          exact e (c.2.1.sep i j l2 xs zs hs hj h1 k1)
        exact ⟨l2, vs2, rfl, k4, k5.mono ee, by rw [upd_ne ne]; exact k6, k7, k8⟩
  · have ne : ∀ z (us : List D), (ρ.set i (.val (.lst xs)))[z]? = some (.own us) → i ≠ z := fun z us hz e => by
      subst e
      have hi : i < ρ.length := (List.getElem?_eq_some_iff.mp hs).1
      rw [List.getElem?_set_self hi] at hz
      cases hz
    have n1 := ne a us k1
    have n2 := ne b zs k2
    rw [List.getElem?_set_ne n1] at k1
    rw [List.getElem?_set_ne n2] at k2
    exact c.2.1.sep a b l' us zs k1 k2 k3 k4
  · have ne : a ≠ l := fun z => by
      rw [z, h6] at e
      cases e
    rw [upd_ne ne]
    exact c.2.2.nf a o e n
theorem wSs_freeze {xs : List D} (i : Nat) (hs : ρ[i]? = some (.own xs)) (h : wSs Γ X B sts (ρ.set i (.val (.lst xs))) S Dd) : wSs Γ X B sts ρ S Dd := .mk fun F H σ c => by
  obtain ⟨F', c', e⟩ := c.frz hs
  exact (h.run F' H σ c').mono (lift_le e)
theorem wS_freeze {xs : List D} (i : Nat) (hs : ρ[i]? = some (.own xs)) (h : wS Γ X B st (ρ.set i (.val (.lst xs))) S Dd) : wS Γ X B st ρ S Dd := .mk fun F H σ c => by
  obtain ⟨F', c', e⟩ := c.frz hs
  exact (h.run F' H σ c').mono (lift_le e)

/-- the next turn, with less left -/
structure Again (W : Nat → List Sl → Sto → Prop) (n : Nat) (ρ : List Sl) (S : Sto) : Prop where
  ex : ∃ n', n' < n ∧ W n' ρ S
/-- the next turn -/
structure Next (W : List Sl → Sto → Prop) (ρ : List Sl) (S : Sto) : Prop where
  ex : W ρ S
theorem and_le {a b : Nat} {p : Prop} (h : a ≤ b) (q : p) : a ≤ b ∧ p := ⟨h, q⟩
theorem and_lt {a b : Nat} {p : Prop} (h : a < b) (q : p) : a < b ∧ p := ⟨h, q⟩
theorem wS_while {t : Expr} {body : List Stmt} (G : Gd Γ X N nm k B E) (W : Nat → List Sl → Sto → Prop) (n0 : Nat) (h0 : W n0 ρ S)
    (hs : ∀ n ρ' S', W n ρ' S' → wT Γ X B t ρ' S' fun z S1 => (z = true → wSs Γ X B body ρ' S1 { Dd with nx := Again W n, ct := Again W n, bk := Dd.nx }) ∧ (z = false → Dd.nx ρ' S1)) :
    wS Γ X B (.While t body [] pos) ρ S Dd := .mk fun F H σ c => by
  refine (ps_while G.pass pt_w pss_w).tw ⟨fun n => NQ Γ B F (W n), ⟨n0, ρ, S, F, c, ex_r F, h0⟩, fun n σ' H' ⟨ρ', S', F', c', e', w⟩ => ?_⟩
  refine ((hs n ρ' S' w).run F' H' σ' c').mono fun z H1 ⟨F1, S1, A1, g1, qt, qf⟩ => ?_
  cases z with
  | true =>
    refine iteT ⟨NQ Γ B F (Again W n), fun σ2 H2 ⟨ρ2, S2, F2, c2, e2, ⟨n', l, w2⟩⟩ => ⟨n', l, ρ2, S2, F2, c2, e2, w2⟩, ?_⟩
    exact ((qt rfl).run F1 H1 σ' (c'.grow A1 g1)).mono (lift_le (e'.trans g1.ex))
  | false => exact iteF ⟨ρ', S1, F1, c'.grow A1 g1, e'.trans g1.ex, qf rfl⟩

/-- the walk yields these data, one by one -/
structure IterD (K : PySem.W.Frag) (J : It) (F : Hp) (ds : List D) : Prop where
  go : ∀ i H, Ex F H → i < ds.length → J.go i H
  yl : ∀ i H x H', Ex F H → J.yld i H x H' → H' = H ∧ ∀ d, ds[i]? = some d → Rep K F x d
  st : ∀ i H, Ex F H → ds.length ≤ i → J.stop i H
def wI (Γ : Wd) (X : Cx) (B : Bs) (tg it : Expr) (ρ : List Sl) (S : Sto) (Q : List D → Sto → Prop) : Prop :=
  ∃ wi, PI X tg it wi ∧ ∀ F H σ, Cf Γ B F H σ ρ S → ∀ R : It → Hp → Prop, (∀ J F' H' S' ds, Ab Γ.K S' F' H' → Grow S F H S' F' H' → IterD Γ.K J F' ds → Q ds S' → R J H') → wi σ H R
theorem iterD_l {K : PySem.W.Frag} {a : Addr} {vs : List V} {ds : List D} (h : F a = some (.lst vs)) (r : RepL K F vs ds) : IterD K (Itl K a) F ds where
  go := fun i H e hi => by
    obtain ⟨x, hx, _⟩ := r.get (List.getElem?_eq_getElem hi)
    exact ⟨vs, x, SqL.of (e _ _ h), hx⟩
  yl := fun i H x H' e ⟨h1, h2⟩ => ⟨h1, fun d hd => by
    obtain ⟨u, hu, q⟩ := r.get hd
    have := (h2 vs (SqL.of (e _ _ h))).symm.trans hu
    rw [Option.some.inj this]
    exact q⟩
  st := fun i H e hi => ⟨vs, SqL.of (e _ _ h), by rw [r.length]; exact hi⟩
theorem iterD_t {K : PySem.W.Frag} {a : Addr} {vs : List V} {ds : List D} (h : SqT K F a vs) (r : RepL K F vs ds) : IterD K (Itt K a) F ds where
  go := fun i H e hi => by
    obtain ⟨x, hx, _⟩ := r.get (List.getElem?_eq_getElem hi)
    exact ⟨vs, x, ex_sqt e h, hx⟩
  yl := fun i H x H' e ⟨h1, h2⟩ => ⟨h1, fun d hd => by
    obtain ⟨u, hu, q⟩ := r.get hd
    have := (h2 vs (ex_sqt e h)).symm.trans hu
    rw [Option.some.inj this]
    exact q⟩
  st := fun i H e hi => ⟨vs, ex_sqt e h, by rw [r.length]; exact hi⟩
theorem iterD_r {K : PySem.W.Frag} (lo : Int) (n : Nat) : IterD K (Itr lo n) F ((List.range n).map fun i => D.int (lo + (i : Nat))) where
  go := fun i H e hi => by
    rw [List.length_map, List.length_range] at hi
    exact hi
  yl := fun i H x H' e ⟨h1, h2⟩ => ⟨h1, fun d hd => by
    rw [List.getElem?_map] at hd
    cases q : (List.range n)[i]? with
    | none =>
      rw [q] at hd
      cases hd
    | some j =>
      rw [q] at hd
      have := List.getElem?_eq_some_iff.mp q
      obtain ⟨hlt, he⟩ := this
      rw [List.getElem_range] at he
      subst he
      rw [← Option.some.inj hd, h2]
      exact .int _⟩
  st := fun i H e hi => by
    rw [List.length_map, List.length_range] at hi
    exact hi
/-- over a frozen list, a frozen tuple -/
theorem wI_lst {tg : Expr} (G : Gd Γ X N nm k B E) (h : wE Γ X B a ρ S fun d S1 => ∃ ds, d = .lst ds ∧ QA ds S1) : wI Γ X B tg a ρ S QA :=
  ⟨iList X.K (tW X a), pi_list pe_w, fun F H σ c R hR => (h.run F H σ c).mono fun v H1 ⟨F1, d, S1, A1, g1, r1, ds, e, q⟩ => by
    subst e
    cases r1 with
    | lst h r =>
      refine ⟨_, rfl, ⟨_, SqL.of (A1.ex _ _ h)⟩, ?_⟩
      rw [G.hK]
      exact hR _ F1 H1 S1 ds A1 g1 (iterD_l h r) q⟩
theorem wI_tup {tg : Expr} (G : Gd Γ X N nm k B E) (h : wE Γ X B a ρ S fun d S1 => ∃ ds, d = .tup ds ∧ QA ds S1) : wI Γ X B tg a ρ S QA :=
  ⟨iTup X.K (tW X a), pi_tup pe_w, fun F H σ c R hR => (h.run F H σ c).mono fun v H1 ⟨F1, d, S1, A1, g1, r1, ds, e, q⟩ => by
    subst e
    cases r1 with
    | tup h r =>
      refine ⟨_, rfl, ⟨_, by rw [G.hK]; exact ex_sqt A1.ex h⟩, ?_⟩
      rw [G.hK]
      exact hR _ F1 H1 S1 ds A1 g1 (iterD_t h r) q⟩
/-- range(n), range(m, n) -/
theorem wI_range1 {tg : Expr} (G : Gd Γ X N nm k B E) (hg : nm.lookup ("range" : Str) = some .globalImplicit) (hm : Γ.mg ("range" : Str) = none) (h : wA Γ X B [a] ρ S fun ds S1 => ∃ n : Nat, ds = [.int (n : Int)] ∧ n ≤ 100000 ∧ QA ((List.range n).map fun i => D.int (i : Nat)) S1)
    (hs : starEach [a] X.env = [(false, eval a X.env)] := by rfl) : wI Γ X B tg (.Call (.Name "range" p) [a] [] pos) ρ S QA :=
  ⟨iRng1 (taW X [a]), pi_range1 (G.gl hg) (by rw [G.hm]; exact hm) pa_w hs, fun F H σ c R hR => (h.run F H σ c).mono fun vs H1 ⟨F1, ds, S1, A1, g1, r1, n, e, hn, q⟩ => by
    subst e
    cases r1 with
    | cons r rr =>
      cases rr
      cases r
      refine ⟨(n : Int), rfl, by omega, by omega, ?_⟩
      have z := iterD_r (K := Γ.K) (F := F1) 0 n
      have e0 : ((List.range n).map fun i => D.int (0 + (i : Nat))) = (List.range n).map fun i => D.int (i : Nat) := by
        congr 1
        funext i
        rw [Int.zero_add]
      rw [e0] at z
      exact hR _ F1 H1 S1 _ A1 g1 z q⟩
theorem wI_range2 {tg : Expr} (G : Gd Γ X N nm k B E) (hg : nm.lookup ("range" : Str) = some .globalImplicit) (hm : Γ.mg ("range" : Str) = none)
    (h : wA Γ X B [a, b] ρ S fun ds S1 => ∃ lo hi : Int, ds = [.int lo, .int hi] ∧ (-100000 ≤ lo ∧ lo ≤ 100000 ∧ -100000 ≤ hi ∧ hi ≤ 100000) ∧ QA ((List.range (hi - lo).toNat).map fun i => D.int (lo + (i : Nat))) S1)
    (hs : starEach [a, b] X.env = [(false, eval a X.env), (false, eval b X.env)] := by rfl) (hs2 : starEach [b] X.env = [(false, eval b X.env)] := by rfl) : wI Γ X B tg (.Call (.Name "range" p) [a, b] [] pos) ρ S QA :=
  ⟨iRng2 (taW X [a, b]), pi_range2 (G.gl hg) (by rw [G.hm]; exact hm) pa_w hs hs2, fun F H σ c R hR => (h.run F H σ c).mono fun vs H1 ⟨F1, ds, S1, A1, g1, r1, lo, hi, e, hn, q⟩ => by
    subst e
    cases r1 with
    | cons r rr =>
      cases rr with
      | cons r2 rr2 =>
        cases rr2
        cases r
        cases r2
        refine ⟨lo, hi, rfl, ⟨by omega, by omega, by omega, by omega⟩, ?_⟩
        exact hR _ F1 H1 S1 _ A1 g1 (iterD_r lo (hi - lo).toNat) q⟩

end
end CR

end

section
namespace CR
open PySem PySem.Spec PyProof.Rows L2

def tgW (X : Cx) (tg : Expr) : TG := fun v σ H Q => ∀ pins s u, Inv X pins σ H s → RelV v u → wpAny (model X.prog X.w) X.A (assign tg X.env u) (fun _ s' => ∃ σ' H', Inv X pins σ' H' s' ∧ Q σ' H') X.xe s
def tgsW (X : Cx) (ts : List Expr) : TGs := fun vs σ H Q => ∀ pins s us, Inv X pins σ H s → Vals vs us → wpAny (model X.prog X.w) X.A (assignInOrder ((assignEach ts X.env).map (·.2)) us) (fun _ s' => ∃ σ' H', Inv X pins σ' H' s' ∧ Q σ' H') X.xe s
def tesW (X : Cx) (ifs : List Expr) : TT := fun σ H Q => ∀ pins s, Inv X pins σ H s →
    wpAny (model X.prog X.w) X.A (forIn ifs true fun c r => if r = true then do let ok ← isTrue c X.env (eval c X.env); pure (ForInStep.yield ok) else pure (ForInStep.yield r)) (TP X pins σ Q) X.xe s
theorem pg_w {X : Cx} {tg : Expr} : PG X tg (tgW X tg) := ⟨fun pins s σ H v u Q I r h => h pins s u I r⟩
theorem pgs_w {X : Cx} {tg : List Expr} : PGs X tg (tgsW X tg) := ⟨fun pins s σ H v u Q I r h => h pins s u I r⟩
theorem pts_w {X : Cx} {tg : List Expr} : PTs X tg (tesW X tg) := ⟨fun pins s σ H Q I h => h pins s I⟩

section
variable {Γ : Wd} {X : Cx} {B : Bs} {e a b c o tg it elt : Expr} {es ifs tgs : List Expr} {st : Stmt} {sts body : List Stmt} {ρ ρ' : List Sl} {S : Sto} {N : List Str} {nm : List (Str × NameKind)} {k j : Nat} {E : EK} {pos p apos : Pos}
variable {F H F' H' : Hp} {S' : Sto} {σ : L2.St} {d : D} {Q : D → Sto → Prop} {QB : Bool → Sto → Prop} {QA : List D → Sto → Prop} {Dd : Dn} {x m : Str} {Φ : FnS} {i : Nat} {is : List Nat} {bh : Hp}

/-- the target takes x: the slots behind it; is: the slots that it changes -/
def wG (Γ : Wd) (X : Cx) (bh : Hp) (tg : Expr) (is : List Nat) (x : D) (ρ ρ' : List Sl) : Prop := ∀ (S : Sto) (F H : Hp) (σ : L2.St) (v : V) (q : L2.St → Hp → Prop), Ab Γ.K S F H → ER Γ.K bh S F H σ ρ → Rep Γ.K F v x →
    (∀ σ', ER Γ.K bh S F H σ' ρ' → σ'.length = σ.length → (∀ j, j ∉ is → σ'[j]? = σ[j]?) → q σ' H) → tgW X tg v σ H q
def wGs (Γ : Wd) (X : Cx) (bh : Hp) (tgs : List Expr) (is : List Nat) (xs : List D) (ρ ρ' : List Sl) : Prop := ∀ (S : Sto) (F H : Hp) (σ : L2.St) (vs : List V) (q : L2.St → Hp → Prop), Ab Γ.K S F H → ER Γ.K bh S F H σ ρ → RepL Γ.K F vs xs →
    (∀ σ', ER Γ.K bh S F H σ' ρ' → σ'.length = σ.length → (∀ j, j ∉ is → σ'[j]? = σ[j]?) → q σ' H) → tgsW X tgs vs σ H q
theorem wG_name {y : D} (G : Gd Γ X N nm k B E) (hi : N[i]? = some x) (hx : nm.lookup x = some .local) (hm : ∀ j, j ∉ is → i ≠ j) : wG Γ X bh (.Name x pos) is y ρ (ρ.set i (.val y)) := fun S F H σ v q A r rv hq => by
  have h1 : Loc X.env.scope x := by unfold L2.Loc; rw [G.hn]; exact .inl hx
  intro pins s u I ru
  refine (pg_name (i := i) (by rw [G.hN]; exact G.nd) (by rw [G.hN]; exact hi) h1 (.inr (by rw [G.hn]; exact hx))).run pins s σ H v u q I ru (hq _ (r.set i rv) (by rw [List.length_set]) fun j hj => ?_)
  exact List.getElem?_set_ne (hm j hj)
/-- a name of the def that a comprehension or a def within reads too -/
theorem wG_cell {y : D} (G : Gs Γ X N nm k B E) (hi : N[i]? = some x) (hx : nm.lookup x = some .cell) (hm : ∀ j, j ∉ is → i ≠ j) : wG Γ X bh (.Name x pos) is y ρ (ρ.set i (.val y)) := fun S F H σ v q A r rv hq => by
  have h1 : Loc X.env.scope x := by unfold L2.Loc; rw [G.g.hn]; exact .inr hx
  intro pins s u I ru
  refine (pg_name (i := i) (by rw [G.g.hN]; exact G.g.nd) (by rw [G.g.hN]; exact hi) h1 (.inl (G.fn x))).run pins s σ H v u q I ru (hq _ (r.set i rv) (by rw [List.length_set]) fun j hj => ?_)
  exact List.getElem?_set_ne (hm j hj)
theorem wGs_nil : wGs Γ X bh [] is [] ρ ρ := fun S F H σ vs q A r rv hq pins s us I ru => by
  cases rv
  exact pgs_nil.run pins s σ H [] us q I ru ⟨rfl, hq σ r rfl fun _ _ => rfl⟩
theorem wGs_cons {y : D} {ys : List D} {ρ1 : List Sl} (h1 : wG Γ X bh a is y ρ ρ1) (h2 : wGs Γ X bh es is ys ρ1 ρ') (hs : (assignEach (a :: es) X.env).map (·.2) = assign a X.env :: (assignEach es X.env).map (·.2) := by rfl) :
    wGs Γ X bh (a :: es) is (y :: ys) ρ ρ' := fun S F H σ vs q A r rv hq pins s us I ru => by
  cases rv with
  | cons r1 rr =>
    refine (pgs_cons pg_w pgs_w hs).run pins s σ H _ us q I ru ⟨_, _, rfl, ?_⟩
    refine h1 S F H σ _ _ A r r1 fun σ1 e1 l1 k1 => ?_
    exact h2 S F H σ1 _ _ A e1 rr fun σ2 e2 l2 k2 => hq σ2 e2 (l2.trans l1) fun j hj => (k2 j hj).trans (k1 j hj)
theorem wG_tup {ys : List D} {kk n : Nat} (G : Gd Γ X N nm k B E) (h : wGs Γ X bh tgs is ys ρ ρ') (hl : ys.length = n) (hn : (assignEach tgs X.env).length = n := by rfl) (hst : (assignEach tgs X.env).findIdx? (·.1) = none := by rfl) :
    wG Γ X bh (.Tuple tgs kk pos) is (.tup ys) ρ ρ' := fun S F H σ v q A r rv hq pins s u I ru => by
  cases rv with
  | tup h1 r1 =>
    refine (pg_tup G.calm pgs_w hn hst).run pins s σ H _ u q I ru ⟨_, _, rfl, by rw [G.hK]; exact ex_sqt A.ex h1, by rw [r1.length]; exact hl, ?_⟩
    exact h S F H σ _ q A r r1 hq
/-- a, b = e -/
theorem wS_tup {kk : Nat} (h : wE Γ X B a ρ S fun d S1 => ∃ is ρ', wG Γ X B.H (.Tuple tgs kk apos) is d ρ ρ' ∧ Dd.nx ρ' S1) (hs : swapsWithSole [.Tuple tgs kk apos] a pos.line X.env = pure false := by rfl) (hw : swappedStores [.Tuple tgs kk apos] a X.env = pure none := by rfl) :
    wS Γ X B (.Assign [.Tuple tgs kk apos] a pos) ρ S Dd := .mk fun F H σ c => by
  refine (ps_asg pe_w pg_w hs hw).tw ((h.run F H σ c).mono fun v H1 ⟨F1, d, S1, A1, g1, r1, is, ρ', hg, q⟩ => ?_)
  have c1 := c.grow A1 g1
  exact hg S1 F1 H1 σ v _ A1 c1.2.1 r1 fun σ' e' _ _ => ⟨ρ', S1, F1, ⟨A1, e', c1.2.2⟩, g1.ex, q⟩

theorem wS_for (G : Gd Γ X N nm k B E) (is : List Nat) (h : wI Γ X B tg it ρ S fun ds S1 => ∃ W : List D → List Sl → Sto → Prop, W ds ρ S1 ∧
      (∀ x rest ρ' S', W (x :: rest) ρ' S' → ∃ ρ2, wG Γ X B.H tg is x ρ' ρ2 ∧ wSs Γ X B body ρ2 S' { Dd with nx := Next (W rest), ct := Next (W rest), bk := Dd.nx }) ∧ (∀ ρ' S', W [] ρ' S' → Dd.nx ρ' S'))
    (hs : ∀ x, foldedSetIterable it X.env x = pure x := by intro _; rfl) : wS Γ X B (.For tg it body [] pos) ρ S Dd := .mk fun F H σ c => by
  obtain ⟨wi, hpi, hwi⟩ := h
  refine (ps_for G.pass G.calm hpi pg_w pss_w hs).tw (hwi F H σ c _ fun J F0 H0 S0 ds A0 g0 itd ⟨W, w0, turn, fin⟩ => ?_)
  have c0 := c.grow A0 g0
  refine ⟨fun i m σ' H' => m = ds.length - i ∧ i ≤ ds.length ∧ NQ Γ B F0 (W (ds.drop i)) σ' H', ⟨ds.length, rfl, Nat.zero_le _, ρ, S0, F0, c0, ex_r F0, w0⟩, ?_⟩
  rintro i m σ' H' ⟨rfl, hi, ρ', S', F', c', ex, w⟩
  have ex' : Ex F0 H' := ex.trans c'.1.ex
  by_cases hlt : i < ds.length
  · refine .inr ⟨itd.go i H' ex' hlt, NQ Γ B F0 (W (ds.drop (i + 1))), fun σ2 H2 n2 => ⟨ds.length - (i + 1), by omega, rfl, hlt, n2⟩, fun v H1 hy => ?_⟩
    obtain ⟨eH, hr⟩ := itd.yl i H' v H1 ex' hy
    subst eH
    have hd : ds.drop i = ds[i] :: ds.drop (i + 1) := List.drop_eq_getElem_cons hlt
    rw [hd] at w
    obtain ⟨ρ2, hg, hb⟩ := turn _ _ ρ' S' w
    have rv := (hr _ (List.getElem?_eq_getElem hlt)).mono ex
    refine hg S' F' H1 σ' v _ c'.1 c'.2.1 rv fun σ2 e2 _ _ => ?_
    have c2 : Cf Γ B F' H1 σ2 ρ2 S' := ⟨c'.1, e2, c'.2.2⟩
    refine (hb.run F' H1 σ2 c2).mono ⟨fun _ _ ⟨ρ3, S3, F3, c3, e3, q⟩ => ⟨ρ3, S3, F3, c3, ex.trans e3, q.ex⟩, fun _ _ q => q, fun _ _ ⟨ρ3, S3, F3, c3, e3, q⟩ => ⟨ρ3, S3, F3, c3, (g0.ex.trans ex).trans e3, q⟩, fun _ _ ⟨ρ3, S3, F3, c3, e3, q⟩ => ⟨ρ3, S3, F3, c3, ex.trans e3, q.ex⟩⟩
  · have hd : ds.drop i = [] := List.drop_eq_nil_of_le (by omega)
    rw [hd] at w
    exact .inl ⟨itd.st i H' ex' (by omega), ρ', S', F', c', g0.ex.trans ex, fin ρ' S' w⟩

/-- the names of a block, by kind -/
def nmB (scope : Scope) (nm : List (Str × NameKind)) : List (Str × NameKind) := scope.names.map fun (n, k) => if (k == .free && nm.lookup n == some .cell) then (n, .cell) else (n, k)
def scOf (nm : List (Str × NameKind)) : Scope := { kind := .function, names := nm, isGenerator := false, isCoroutine := false }
def wipeS (ρ : List Sl) : List Nat → List Sl
  | [] => ρ
  | v :: vs => (wipeS ρ vs).set v .no
theorem ER.wipe (r : ER Γ.K bh S F H σ ρ) : ∀ vs : List Nat, ER Γ.K bh S F H (wipe σ vs) (wipeS ρ vs)
  | [] => r
  | v :: vs => (ER.wipe r vs).forget v none
theorem wipe_at {σ' : L2.St} : ∀ {vs : List Nat}, σ'.length = σ.length → (∀ j, j ∉ vs → σ'[j]? = (wipe σ vs)[j]?) → wipe σ' vs = wipe σ vs := fun {vs} hl h => by
  have at_ : ∀ (τ : L2.St) (ws : List Nat) (j : Nat), (wipe τ ws)[j]? = if j ∈ ws then (if j < τ.length then some none else none) else τ[j]? := fun τ ws j => by
    induction ws with
    | nil => simp [L2.wipe]
    | cons v ws ih =>
      show ((wipe τ ws).set v none)[j]? = _
      by_cases e : v = j
      · subst e
        rw [if_pos List.mem_cons_self]
        by_cases hv : v < τ.length
        · rw [List.getElem?_set_self (by rw [wipe_length]; exact hv), if_pos hv]
        · rw [List.getElem?_eq_none (by rw [List.length_set, wipe_length]; omega), if_neg hv]
      · rw [List.getElem?_set_ne e, ih]
        by_cases hm : j ∈ ws
        · rw [if_pos hm, if_pos (List.mem_cons_of_mem _ hm)]
        · rw [if_neg hm, if_neg (fun z => (List.mem_cons.mp z).elim (fun q => e q.symm) hm)]
  apply List.ext_getElem?
  intro j
  rw [at_, at_, hl]
  by_cases hm : j ∈ vs
  · rw [if_pos hm, if_pos hm]
  · rw [if_neg hm, if_neg hm, h j hm, at_, if_neg hm]
theorem blkOk_of {scope : Scope} {own : List (Str × Nat)} (G : Gd Γ X N nm k B E) (h : blkC N (scOf nm) scope own = true) : BlkOk X.N X.env.scope scope own := by
  have b := blkOk_by h
  refine ⟨b.kind, b.uniq, ?_, ?_, ?_⟩
  · rw [G.hN]; exact b.ix
  · rw [G.hn]; exact b.free
  · rw [G.hN]; exact b.own
abbrev EN : EK := fun _ _ _ => False
theorem lookup_map {f : Str → NameKind → NameKind} : ∀ {l : List (Str × NameKind)} {n : Str} {k : NameKind}, l.lookup n = some k → (l.map fun (n, k) => (n, f n k)).lookup n = some (f n k)
  | (m, j) :: l, n, k, h => by
    rw [List.map_cons, List.lookup_cons]
    rw [List.lookup_cons] at h
    cases q : n == m with
    | true =>
      rw [q] at h
      have e : n = m := eq_of_beq q
      have h2 : j = k := Option.some.inj h
      rw [e, h2]
    | false =>
      rw [q] at h
      exact lookup_map h
theorem nmB_eq (scope : Scope) (nm : List (Str × NameKind)) : nmB scope nm = scope.names.map fun (n, k) => (n, if (k == .free && nm.lookup n == some .cell) then .cell else k) := by
  unfold nmB
  apply List.map_congr_left
  rintro ⟨n, k⟩ _
  dsimp only
  split <;> rfl
theorem uq_nmB {scope : Scope} (h : Uq scope.names) : Uq (nmB scope nm) := fun y hy => by
  rw [nmB_eq] at hy ⊢
  obtain ⟨⟨n, k⟩, h1, h2⟩ := List.mem_map.mp hy
  subst h2
  exact lookup_map (f := fun n k => if (k == .free && nm.lookup n == some .cell) then .cell else k) (h _ h1)
theorem gd_blk {scope : Scope} {own : List (Str × Nat)} (G : Gd Γ X N nm k B E) (h : blkC N (scOf nm) scope own = true) (s : Shared) (H0 : Hp) (C : Addr) (cl : List (Str × Addr)) (fp : List Addr) : Gd Γ (X.blk s H0 scope (compEnvC scope cl C X.env) fp) N (nmB scope nm) k B EN where
  hP := G.hP
  hw := G.hw
  hK := G.hK
  hm := G.hm
  hb := G.hb
  hN := G.hN
  nd := G.nd
  hn := by
    show (relabel scope X.env).names = nmB scope nm
    unfold relabel nmB Env.kindOf
    rw [G.kind, G.hn]
    apply List.map_congr_left
    rintro ⟨n, k⟩ _
    simp
  room := G.room
  calm := G.calm
  kind := (blkOk_by h).kind
  uq := uq_nmB (blkOk_by h).uniq
  pass := PassesOwn.never
  tk := fun u s' ⟨_, _, _, _, _, _, _, _, _, _, _, _, _, _, _, _, z⟩ => by
    obtain ⟨_, _, _, _, _, _, _, _, _, z⟩ := z
    exact z
def wTs (Γ : Wd) (X : Cx) (B : Bs) (ifs : List Expr) (ρ : List Sl) (S : Sto) (Q : Bool → Sto → Prop) : Prop := ∀ F H σ, Cf Γ B F H σ ρ S → tesW X ifs σ H (BQ Γ S F H Q)
theorem wTs_nil (q : QB true S) : wTs Γ X B [] ρ S QB := fun F H σ c pins s I => pts_nil.run pins s σ H _ I (BQ.same c.1 q)
theorem wTs_one (h : wT Γ X B a ρ S QB) : wTs Γ X B [a] ρ S QB := fun F H σ c pins s I => (pts_one pt_w).run pins s σ H _ I (h.run F H σ c)
/-- what a comprehension asks -/
def LcQ (Γ : Wd) (B : Bs) (N : List Str) (nm : List (Str × NameKind)) (k : Nat) (elt tg : Expr) (ifs : List Expr) (scope : Scope) (own : List (Str × Nat)) (ρ : List Sl) (Q : D → Sto → Prop) (ds : List D) (S1 : Sto) : Prop :=
  ds.length ≤ 100000 ∧ ∃ W : List D → List D → Sto → Prop, W ds [] S1 ∧
    (∀ x rest acc S', W (x :: rest) acc S' → ∃ ρ2, (∀ Xb, Gd Γ Xb N (nmB scope nm) k B EN → wG Γ Xb B.H tg (own.map (·.2)) x (wipeS ρ (own.map (·.2))) ρ2) ∧
      ∀ Xb, Gd Γ Xb N (nmB scope nm) k B EN → wTs Γ Xb B ifs ρ2 S' fun z S2 => (z = true → ∀ Xb, Gd Γ Xb N (nmB scope nm) k B EN → wE Γ Xb B elt ρ2 S2 fun y S3 => W rest (acc ++ [y]) S3) ∧ (z = false → W rest acc S2)) ∧ (∀ acc S', W [] acc S' → Q (.lst acc) S')
def gLc (X : Cx) (scope : Scope) (tg : Expr) : TG := fun v σ H q => ∀ (s : Shared) (H0 : Hp) (C : Addr) (cl : List (Str × Addr)) (fp : List Addr), tgW (X.blk s H0 scope (compEnvC scope cl C X.env) fp) tg v σ H q
def tLcs (X : Cx) (scope : Scope) (ifs : List Expr) : TT := fun σ H q => ∀ (s : Shared) (H0 : Hp) (C : Addr) (cl : List (Str × Addr)) (fp : List Addr), tesW (X.blk s H0 scope (compEnvC scope cl C X.env) fp) ifs σ H q
def eLc (X : Cx) (scope : Scope) (elt : Expr) : TE := fun σ H q => ∀ (s : Shared) (H0 : Hp) (C : Addr) (cl : List (Str × Addr)) (fp : List Addr), tW (X.blk s H0 scope (compEnvC scope cl C X.env) fp) elt σ H q
theorem lc_ask {scope : Scope} {own : List (Str × Nat)} {wi : TI} (G : Gd Γ X N nm k B E) (hbk : blkC N (scOf nm) scope own = true) (c : Cf Γ B F H σ ρ S)
    (hwi : ∀ F H σ, Cf Γ B F H σ ρ S → ∀ R : It → Hp → Prop, (∀ J F' H' S' ds, Ab Γ.K S' F' H' → Grow S F H S' F' H' → IterD Γ.K J F' ds → LcQ Γ B N nm k elt tg ifs scope own ρ Q ds S' → R J H') → wi σ H R) {Qv : VK} (hq : ∀ v H', VQ Γ S F H Q v H' → Qv v H') :
    tLc wi (gLc X scope tg) (tLcs X scope ifs) (eLc X scope elt) (own.map (·.2)) σ H Qv := by
  refine hwi F H σ c _ fun J F0 H0 S0 ds A0 g0 itd ⟨hz, W, w0, turn, fin⟩ => ?_
  have c0 := c.grow A0 g0
  intro L hL
  have AL := A0.loose (o := .lst []) hL
  have gL := A0.g_loose (o := .lst []) hL
  let P : Nat → Hp → Prop := fun i H' => ∃ S' F' vs acc, Ab Γ.K S' F' H' ∧ Grow S0 F0 H0 S' F' H' ∧ H' L = some (.lst vs) ∧ RepL Γ.K F' vs acc ∧ F' L = none ∧ S' L = none ∧ acc.length ≤ i ∧ W (ds.drop i) acc S'
  refine ⟨fun i m H' => m = ds.length - i ∧ i ≤ ds.length ∧ P i H', ⟨ds.length, rfl, Nat.zero_le _, S0, F0, [], [], AL, gL, upd_same, .nil, A0.fnone hL, A0.snone hL, Nat.le_refl _, w0⟩, ?_⟩
  rintro i m H' ⟨rfl, hi, S', F', vs, acc, A', g', hl, rl, fl, sl, al, w⟩
  have ex' : Ex F0 H' := g'.ex.trans A'.ex
  by_cases hlt : i < ds.length
  · refine .inr ⟨itd.go i H' ex' hlt, P (i + 1), fun H2 n2 => ⟨ds.length - (i + 1), by omega, rfl, hlt, n2⟩, fun v H1 hy => ?_⟩
    obtain ⟨eH, hr⟩ := itd.yl i H' v H1 ex' hy
    subst eH
    have hd : ds.drop i = ds[i] :: ds.drop (i + 1) := List.drop_eq_getElem_cons hlt
    rw [hd] at w
    obtain ⟨ρ2, hg, hb⟩ := turn _ _ acc S' w
    have rv := (hr _ (List.getElem?_eq_getElem hlt)).mono g'.ex
    have c1 := c0.grow A' g'
    intro s Hs C cl fp
    refine hg _ (gd_blk G hbk s Hs C cl fp) S' F' H1 _ v _ A' (c1.2.1.wipe (own.map (·.2))) rv fun σ2 e2 l2 k2 => ⟨wipe_at (by rw [l2, wipe_length]) k2, ?_⟩
    have c2 : Cf Γ B F' H1 σ2 ρ2 S' := ⟨A', e2, c1.2.2⟩
    intro s Hs C cl fp
    refine fun pins s1 I1 => thn (hb _ (gd_blk G hbk s Hs C cl fp) F' H1 σ2 c2 pins s1 I1) fun z s2 ⟨H2, I2, F2, S2, A2, g2, qt, qf⟩ => ⟨H2, I2, ?_⟩
    have hl2 := g2.fr _ _ hl sl
    cases z with
    | false =>
      refine iteF ⟨S2, F2, vs, acc, A2, g'.trans g2, hl2, rl.mono g2.ex, g2.nf _ _ hl fl, g2.ns _ _ hl sl, by omega, qf rfl⟩
    | true =>
      refine iteT ?_
      intro s Hs C cl fp
      refine ((qt rfl _ (gd_blk G hbk s Hs C cl fp)).run F2 H2 σ2 (c2.grow A2 g2)).mono fun y H3 ⟨F3, dy, S3, A3, g3, ry, w3⟩ => ?_
      have hl3 := g3.fr _ _ hl2 (g2.ns _ _ hl sl)
      have f3 := g3.nf _ _ hl2 (g2.nf _ _ hl fl)
      have s3 := g3.ns _ _ hl2 (g2.ns _ _ hl sl)
      have g13 := (g'.trans g2).trans g3
      refine ⟨vs, hl3, sz_lt (by rw [rl.length]; omega), S3, F3, vs ++ [y], acc ++ [dy], ⟨fun a o e => ?_, fun a o e => ?_⟩, ⟨g13.ex, fun a o e n => ?_, g13.nf, g13.ns, fun a o e => ?_⟩, upd_same, ((rl.mono g2.ex).mono g3.ex).append (.cons ry .nil), f3, s3, by rw [List.length_append, List.length_singleton]; omega, w3⟩
      · have ne : a ≠ L := fun z => by
          rw [z, f3] at e
          cases e
        rw [upd_ne ne]
        exact A3.ex a o e
      · have ne : a ≠ L := fun z => by
          rw [z, s3] at e
          cases e
        exact ⟨(A3.st a o e).1, (A3.st a o e).2.mono (Evl.Ex.refl F3) (upd_ne ne)⟩
      · rw [upd_ne (ne_of_none e hL)]
        exact g13.fr a o e n
      · obtain ⟨o', z⟩ := g13.th a o e
        exact ⟨o', by rw [upd_ne (ne_of_none e hL)]; exact z⟩
  · have hd : ds.drop i = [] := List.drop_eq_nil_of_le (by omega)
    rw [hd] at w
    refine .inl ⟨itd.st i H' ex' (by omega), hq _ _ ?_⟩
    have ee := Evl.Ex.new (o := .lst vs) fl
    have g1 := g0.trans g'
    refine ⟨upd F' L (.lst vs), .lst acc, S', A'.freeze hl fl sl, ⟨g1.ex.trans ee, g1.fr, fun a o e n => ?_, g1.ns, g1.th⟩, .lst upd_same (rl.mono ee), fin acc S' w⟩
    have ne : a ≠ L := fun z => by
      subst z
      rw [g0.back hL] at e
      cases e
    rw [upd_ne ne]
    exact g1.nf a o e n
/-- [elt for tg in it if ..] as a value -/
theorem wE_lc {scope : Scope} (G : Gd Γ X N nm k B E) (own : List (Str × Nat)) (hbk : blkC N (scOf nm) scope own = true) (h : wI Γ X B tg it ρ S fun ds S1 => LcQ Γ B N nm k elt tg ifs scope own ρ Q ds S1)
    (hs : ∀ x, foldedSetIterable it X.env x = pure x := by intro _; rfl) : wE Γ X B (.ListComp elt [⟨tg, it, ifs, 0⟩] scope pos) ρ S Q := .mk fun F H σ c => by
  obtain ⟨wi, hpi, hwi⟩ := h
  exact (pe_lc (wi := wi) (g := gLc X scope tg) (tt := tLcs X scope ifs) (te := eLc X scope elt) G.calm (by rw [G.hN]; exact G.nd) hpi (blkOk_of G hbk)
    (fun s H C cl fp => ⟨fun pins s1 σ H v u Q I r h => h s _ C cl fp pins s1 u I r⟩) (fun s H C cl fp => ⟨fun pins s1 σ H Q I h => h s _ C cl fp pins s1 I⟩) (fun s H C cl fp => ⟨fun pins s1 σ H Q I h => h s _ C cl fp pins s1 I⟩) hs).tw (lc_ask G hbk c hwi fun _ _ q => q)
/-- x = [elt for tg in it if ..] on one line -/
theorem wS_lc {scope : Scope} {px : Pos} (G : Gs Γ X N nm k B E) (own : List (Str × Nat)) (hbk : blkC N (scOf nm) scope own = true) (hi : N[i]? = some x) (hx : nm.lookup x = some .local) (hl : (px.line == p.line) = true) (ha : (scope.names.any fun (n, k) => n == x && (k == .local || k == .cell)) = false)
    (h : wI Γ X B tg it ρ S fun ds S1 => LcQ Γ B N nm k elt tg ifs scope own ρ (fun d S2 => Dd.nx (ρ.set i (.val d)) S2) ds S1)
    (hs : ∀ x, foldedSetIterable it X.env x = pure x := by intro _; rfl) : wS Γ X B (.Assign [.Name x px] (.ListComp elt [⟨tg, it, ifs, 0⟩] scope p) pos) ρ S Dd := .mk fun F H σ c => by
  obtain ⟨wi, hpi, hwi⟩ := h
  refine (ps_setLc (i := i) (wi := wi) (g := gLc X scope tg) (tt := tLcs X scope ifs) (te := eLc X scope elt) G.g.calm (by rw [G.g.hN]; exact G.g.nd) (by rw [G.g.hN]; exact hi) (by rw [G.g.hn]; exact hx) (sw_true G.g.kind (by rw [G.g.hn]; exact hx) hl ha) hpi (blkOk_of G.g hbk)
    (fun s H C cl fp => ⟨fun pins s1 σ H v u Q I r h => h s _ C cl fp pins s1 u I r⟩) (fun s H C cl fp => ⟨fun pins s1 σ H Q I h => h s _ C cl fp pins s1 I⟩) (fun s H C cl fp => ⟨fun pins s1 σ H Q I h => h s _ C cl fp pins s1 I⟩) hs).tw ?_
  refine lc_ask (Qv := fun v H' => NQ Γ B F Dd.nx (σ.set i (some v)) H') G.g hbk c hwi fun v H1 ⟨F1, d, S1, A1, g1, r1, q⟩ => ?_
  have c1 := c.grow A1 g1
  exact ⟨_, S1, F1, ⟨A1, c1.2.1.set i r1, c1.2.2⟩, g1.ex, q⟩

def startS (N : List Str) (ds : List D) : List Sl := ds.map .val ++ List.replicate (N.length - ds.length) .no
theorem er_start {K : PySem.W.Frag} {vs : List V} {ds : List D} (r : RepL K F vs ds) : ER K bh S F H (L2.start N vs) (startS N ds) where
  len := by unfold L2.start startS; simp [r.length]
  at_ := fun i s h => by
    unfold startS at h
    unfold L2.start
    by_cases hi : i < ds.length
    · rw [List.getElem?_append_left (by simpa using hi), List.getElem?_map] at h
      rw [List.getElem?_append_left (by simpa [r.length] using hi), List.getElem?_map]
      cases e : ds[i]? with
      | none =>
        rw [e] at h
        cases h
      | some d =>
        rw [e] at h
        have h2 := Option.some.inj h
        subst h2
        obtain ⟨v, hv, q⟩ := r.get e
        exact ⟨some v, by rw [hv]; rfl, v, rfl, q⟩
    · rw [List.getElem?_append_right (by simpa using hi)] at h
      rw [List.getElem?_append_right (by simpa [r.length] using hi)]
      rw [List.getElem?_replicate] at h
      split at h
      · rename_i hlt
        have h2 := Option.some.inj h
        subst h2
        refine ⟨none, ?_, trivial⟩
        rw [List.getElem?_replicate, if_pos]
        simp only [List.length_map] at hlt ⊢
        rw [r.length]
        exact hlt
      · cases h
  sep := fun i j l xs ys h1 h2 _ _ => by
    unfold startS at h1
    by_cases hi : i < ds.length
    · rw [List.getElem?_append_left (by simpa using hi), List.getElem?_map] at h1
      cases e : ds[i]? with
      | none =>
        rw [e] at h1
        cases h1
      | some d =>
        rw [e] at h1
        cases h1
    · rw [List.getElem?_append_right (by simpa using hi), List.getElem?_replicate] at h1
      split at h1 <;> cases h1
/-- a def keeps its promise Φ, if its body does: from any state at which Φ holds of the arguments -/
theorem okD {x qual : Str} {params : Arguments} {scope : Scope} {f : Addr} {fd : FuncData} {ps : List Str} (F : FunD Γ.K x qual params body scope [] [] f fd) (Sc : FnScope N ps scope) (hnm : scope.names = nm) (uq : uqB nm = true) (len : ∀ ds S Q E, Φ ds S Q E → ds.length = ps.length)
    (hb : ∀ (X : Cx) (B : Bs) (ds : List D) (Q : D → Sto → Prop) (E : Addr → Sto → Prop), Gs Γ X N nm k B (fun C _ S => E C S) → Φ ds B.S Q E → wSs Γ X B body (startS N ds) B.S { nx := fun _ S => Q .non S, rt := Q }) : OkD Γ (k + 1) f fd ps Φ := by
  refine F.ok Sc (fun vs H Q E h => ?_) (fun cdv A outer s H vs Q E hr h => ?_)
  · obtain ⟨S, F, ds, QD, QE, A, r, φ, _⟩ := h
    rw [r.length]
    exact len _ _ _ _ φ
  · obtain ⟨S, F0, ds, QD, QE, A0, r, φ, h1, h2⟩ := h
    have tk : Takes (cxOf (L2.CX Γ.P Γ.w) Γ.P Γ.w Γ.K Γ.mg Γ.base N qual scope f cdv A outer s H E) (fun cls d _ H => E cls d H) := takes_of rfl rfl rfl rfl
    have tk2 : Takes (cxOf (L2.CX Γ.P Γ.w) Γ.P Γ.w Γ.K Γ.mg Γ.base N qual scope f cdv A outer s H E) (LX Γ.K ⟨S, F0, H⟩ fun C _ S => QE C S) := tk.imp fun cls dd σ H' ⟨C, ρ, S', F', e1, e2, A', er, g', q⟩ => by
      subst e1 e2
      exact h2 C S' F' H' A' g' q
    have G : Gs Γ (cxOf (L2.CX Γ.P Γ.w) Γ.P Γ.w Γ.K Γ.mg Γ.base N qual scope f cdv A outer s H E) N nm k ⟨S, F0, H⟩ (fun C _ S => QE C S) :=
      ⟨⟨rfl, rfl, rfl, rfl, rfl, rfl, Sc.nd, hnm, uq_of uq, hr, rfl, Sc.kind, PassesOwn.leaving, tk2⟩, fun _ => rfl, rfl, rfl, rfl⟩
    refine ⟨_, pss_w, ?_⟩
    refine ((hb _ ⟨S, F0, H⟩ ds QD QE G φ).run F0 H (L2.start N vs) ⟨A0, er_start r, Grow.refl S F0 H⟩).mono ⟨fun σ' H' ⟨ρ', S', F', c', e', q⟩ => ?_, fun v H' ⟨d, S', F', A', g', rv, q⟩ => ?_, fun σ' H' ⟨_, _, _, _, _, q⟩ => q, fun σ' H' ⟨_, _, _, _, _, q⟩ => q⟩
    · exact h1 .non .non S' F' H' c'.1 c'.2.2 .non q
    · exact h1 v d S' F' H' A' g' rv q
end
end CR

end

section
namespace CR
open PySem PySem.Spec PyProof.Rows L2

def OpS (Γ : Wd) (r : V → Option Int → Option Int → Hp → VK → Prop) (x : D) (lo hi : Option Int) (z : D) : Prop := ∀ (S : Sto) (F H : Hp) (v : V) (Qv : VK), Ab Γ.K S F H → Rep Γ.K F v x → (∀ v' F' H', Ab Γ.K S F' H' → Grow S F H S F' H' → Rep Γ.K F' v' z → Qv v' H') → r v lo hi H Qv
structure SlcR (Γ : Wd) (X : Cx) (x : D) (lo hi : Option Int) (z : D) : Prop where
  ex : ∃ r, L2.SlR X r ∧ OpS Γ r x lo hi z
structure SubR (Γ : Wd) (X : Cx) (x y z : D) : Prop where
  ex : ∃ r, IxR X r ∧ Op2 Γ r x y z
/-- a method of a built-in type: its name, its slot -/
structure MtId (m : Str) (T id : String) : Prop where
  pa : PlainAttrs T
  slot : Slot T m id
  hty : typeOf (.builtin id) = pure (.type "method_descriptor")
def TyD (T : String) (x : D) (S : Sto) : Prop := (∃ s, x = .str s ∧ T = "str") ∨ (∃ xs, x = .lst xs ∧ T = "list") ∨ (∃ a xs, x = .ref a ∧ S a = some (.lst xs) ∧ T = "list") ∨ ∃ a kvs, x = .ref a ∧ S a = some (.dct kvs) ∧ T = "dict"
def OpM (Γ : Wd) (r : V → List V → Hp → VK → Prop) (x : D) (xs : List D) (z : D) : Prop := ∀ (S : Sto) (F H : Hp) (v : V) (vs : List V) (Qv : VK), Ab Γ.K S F H → Rep Γ.K F v x → RepL Γ.K F vs xs → (∀ v' F' H', Ab Γ.K S F' H' → Grow S F H S F' H' → Rep Γ.K F' v' z → Qv v' H') → r v vs H Qv
structure MtdR (Γ : Wd) (X : Cx) (id : String) (x : D) (xs : List D) (z : D) : Prop where
  ex : ∃ r, MtR X id r ∧ OpM Γ r x xs z

section
variable {Γ : Wd} {X : Cx} {B : Bs} {e a b c o : Expr} {lo hi : Option Expr} {es : List Expr} {st : Stmt} {sts body : List Stmt} {ρ ρ' : List Sl} {S : Sto} {N : List Str} {nm : List (Str × NameKind)} {k j : Nat} {E : EK} {pos p p2 apos cpos : Pos}
variable {F H F' H' : Hp} {S' : Sto} {σ : L2.St} {d : D} {Q : D → Sto → Prop} {QB : Bool → Sto → Prop} {QA : List D → Sto → Prop} {Dd : Dn} {x m : Str} {Φ : FnS} {i : Nat}

theorem Rep.tyv {T : String} {d : D} (t : TyD T d S) (A : Ab Γ.K S F H) {v : V} (r : Rep Γ.K F v d) : tyV Γ.K T v H := by
  rcases t with ⟨s, rfl, rfl⟩ | ⟨xs, rfl, rfl⟩ | ⟨a, xs, rfl, hS, rfl⟩ | ⟨a, kvs, rfl, hS, rfl⟩
  · cases r; rfl
  · cases r with
    | lst h r => exact .inl ⟨rfl, _, SqL.of (A.ex _ _ h)⟩
  · cases r
    obtain ⟨_, vs, h, _⟩ := A.st a _ hS
    exact .inl ⟨rfl, _, SqL.of h⟩
  · cases r
    obtain ⟨_, vs, h, _⟩ := A.st a _ hS
    exact .inr (.inr (.inl ⟨rfl, .inl ⟨_, h⟩⟩))
/-- o.m(e, ..), a built-in type's method that leaves the store as it is -/
theorem wE_bm (G : Gd Γ X N nm k B E) (h : wE Γ X B o ρ S fun y S1 => ∃ T id, MtId m T id ∧ TyD T y S1 ∧ wA Γ X B (e :: es) ρ S1 fun xs S2 => ∃ z, MtdR Γ X id y xs z ∧ Q z S2)
    (hbase : attributeBase o m X.env (eval o X.env) = eval o X.env := by rfl)
    (hfew : ((backTo cpos (starEach (e :: es) X.env)).all (fun x => !x.1) && (backToKw cpos (keywordEach [] X.env)).all (fun x => x.1.isSome)
      && decide ((e :: es).length + ([] : List Keyword).length + (if ([] : List Keyword).isEmpty then 0 else 1) < 30)) = true := by rfl)
    (hline : (apos.endLine == cpos.line) = true := by rfl) (hs : starEach (e :: es) X.env = (false, eval e X.env) :: starEach es X.env := by rfl) (hplain : (backTo cpos (starEach es X.env)).any (·.1) = false := by rfl) :
    wE Γ X B (.Call (.Attribute o m apos) (e :: es) [] cpos) ρ S Q := .mk fun F H σ c => by
  intro pins s I
  refine wpAny_Call_method_late hbase hfew hline rfl (thn (h.run F H σ c pins s I) fun v s1 ⟨y, H1, I1, r1, F1, d, S1, A1, g1, rd, T, id, mi, ty, ha⟩ => ?_)
  obtain ⟨h1, h2⟩ := tyV_is I1 r1 (by rw [G.hK]; exact rd.tyv ty A1)
  refine ⟨T, id, mi.pa, mi.slot, mi.hty, h1, h2, ?_⟩
  have hA := ha.run F1 H1 σ (c.grow A1 g1) cpos pins s1 I1
  rw [hs] at hA ⊢
  refine Calls.callWith_builtin (by show (false || (backTo cpos (starEach es X.env)).any (·.1)) = false; rw [hplain] <;> rfl) (Calls.evalArgs_plain ?_)
  refine thn hA fun us s2 ⟨vs, H2, I2, r2, F2, ds, S2, A2, g2, rl, z, ⟨r, hr, op⟩, q⟩ => hr pins s2 σ H2 y vs v us _ I2 r1 r2 ?_
  exact op S2 F2 H2 y vs _ A2 (rd.mono g2.ex) rl fun v' F' H' A' g' r' => ⟨F', z, S2, A', (g1.trans g2).trans g', r', q⟩
theorem wE_bm0 (G : Gd Γ X N nm k B E) (h : wE Γ X B o ρ S fun y S1 => ∃ T id, MtId m T id ∧ TyD T y S1 ∧ ∃ z, MtdR Γ X id y [] z ∧ Q z S1)
    (hbase : attributeBase o m X.env (eval o X.env) = eval o X.env := by rfl) (hline : (apos.endLine == cpos.line) = true := by rfl) : wE Γ X B (.Call (.Attribute o m apos) [] [] cpos) ρ S Q := .mk fun F H σ c => by
  intro pins s I
  refine wpAny_Call_method0_late hbase hline (thn (h.run F H σ c pins s I) fun v s1 ⟨y, H1, I1, r1, F1, d, S1, A1, g1, rd, T, id, mi, ty, z, ⟨r, hr, op⟩, q⟩ => ?_)
  obtain ⟨h1, h2⟩ := tyV_is I1 r1 (by rw [G.hK]; exact rd.tyv ty A1)
  refine ⟨T, id, mi.pa, mi.slot, mi.hty, h1, h2, Calls.callWith_builtin rfl (PySem.evalArgs_none (hr pins s1 σ H1 y [] v [] _ I1 r1 .nil ?_))⟩
  exact op S1 F1 H1 y [] _ A1 rd .nil fun v' F' H' A' g' r' => ⟨F', z, S1, A', g1.trans g', r', q⟩
/-- a[b] -/
theorem wE_sub (h : wE Γ X B a ρ S fun y S1 => wE Γ X B b ρ S1 fun z S2 => ∃ w, SubR Γ X y z w ∧ Q w S2) (hs : PlainIx b := by intro _ _; rfl) : wE Γ X B (.Subscript a b pos) ρ S Q := .mk fun F H σ c => by
  intro pins s I
  refine Subscript_ (binT pe_w pe_w I (R := fun v u H2 => ∃ r, IxR X r ∧ r v u H2 (VQ Γ S F H Q)) ?_ fun v u s2 x y H2 I2 rx ry ⟨r, hr, q⟩ => hr a b pins s2 σ H2 x y v u _ I2 rx ry q (hs _ _))
  refine (h.run F H σ c).mono fun v H1 ⟨F1, x, S1, A1, g1, r1, h1⟩ => ?_
  refine (h1.run F1 H1 σ (c.grow A1 g1)).mono fun u H2 ⟨F2, y, S2, A2, g2, r2, z, ⟨r, hr, o⟩, q⟩ => ⟨r, hr, ?_⟩
  exact o S2 F2 H2 v u _ A2 (r1.mono g2.ex) r2 fun v' F' H' A' g' r' => ⟨F', z, S2, A', (g1.trans g2).trans g', r', q⟩
/-- a part of a slice -/
def wP (Γ : Wd) (X : Cx) (B : Bs) (e : Option Expr) (ρ : List Sl) (S : Sto) (Q : Option Int → Sto → Prop) : Prop := match e with
  | none => Q none S
  | some e => wE Γ X B e ρ S fun d S1 => ∃ i, d = .int i ∧ Q (some i) S1
theorem wP_run {e : Option Expr} {QP : Option Int → Sto → Prop} (h : wP Γ X B e ρ S QP) (c : Cf Γ B F H σ ρ S) {pins : List (Addr × Obj)} {s : Shared} (I : Inv X pins σ H s) :
    wpAny (model X.prog X.w) X.A (evalPart e X.env) (fun u s' => ∃ o H', Inv X pins σ H' s' ∧ IsPart u o ∧ ∃ F' S', Ab Γ.K S' F' H' ∧ Grow S F H S' F' H' ∧ QP o S') X.xe s := by
  cases e with
  | none => exact po_none.run pins s σ H _ I ⟨F, S, c.1, Grow.refl S F H, h⟩
  | some e =>
    refine (po_some pe_w).run pins s σ H (fun o H' => ∃ F' S', Ab Γ.K S' F' H' ∧ Grow S F H S' F' H' ∧ QP o S') I ?_
    refine ((show wE Γ X B e ρ S _ from h).run F H σ c).mono fun v H1 ⟨F1, d, S1, A1, g1, r1, i, e, q⟩ => ?_
    subst e
    cases r1
    exact ⟨i, rfl, F1, S1, A1, g1, q⟩
theorem wP_none {QP : Option Int → Sto → Prop} (h : QP none S) : wP Γ X B none ρ S QP := h
theorem wP_some {QP : Option Int → Sto → Prop} (h : wE Γ X B e ρ S fun d S1 => ∃ i, d = .int i ∧ QP (some i) S1) : wP Γ X B (some e) ρ S QP := h
theorem wE_slice (h : wE Γ X B a ρ S fun y S1 => wP Γ X B lo ρ S1 fun l S2 => wP Γ X B hi ρ S2 fun u S3 => ∃ z, SlcR Γ X y l u z ∧ Q z S3) : wE Γ X B (.Subscript a (.Slice lo hi none p2) pos) ρ S Q := .mk fun F H σ c => by
  intro pins s I
  refine Subscript_ (thn (h.run F H σ c pins s I) fun v s1 ⟨x, H1, I1, r1, F1, d, S1, A1, g1, rd, hP⟩ => ?_)
  refine wpAny_Slice (thn (wP_run hP (c.grow A1 g1) I1) fun vl s2 ⟨l, H2, I2, pl, F2, S2, A2, g2, hP2⟩ => thn (wP_run hP2 ((c.grow A1 g1).grow A2 g2) I2) fun vu s3 ⟨u, H3, I3, pu, F3, S3, A3, g3, z, ⟨r, hr, op⟩, q⟩ => ?_)
  rw [evalPart_none]
  refine wpAny_pure ?_
  have I4 : Inv X pins σ H3 { s3 with heap := s3.heap.push { cls := .type "slice", data := .fields #[vl, vu, .none] } } := I3.kept (t' := s3.toks) fun b ob q => Heap.get?_push_of_some _ q
  have g13 := (g1.trans g2).trans g3
  obtain ⟨T, id, hT, ht, hg⟩ := hr pins { s3 with heap := s3.heap.push { cls := .type "slice", data := .fields #[vl, vu, .none] } } σ H3 x v vl vu l u s3.heap.objs.size (VQ Γ S F H Q) I4 r1 (Heap.IsSliceOf.new ..) pl pu
    (op S3 F3 H3 x _ A3 ((rd.mono g2.ex).mono g3.ex) fun v' F' H' A' g' r' => ⟨F', z, S3, A', g13.trans g', r', q⟩)
  show wpAny (model X.prog X.w) X.A (subscriptTail a (.Slice lo hi none p2) v (.ref s3.heap.objs.size)) (EP X pins σ (VQ Γ S F H Q)) X.xe { s3 with heap := s3.heap.push { cls := .type "slice", data := .fields #[vl, vu, .none] } }
  exact tail_any (ops := [.ref s3.heap.objs.size, v]) ht hT hg (by with_unfolding_all rfl)

theorem op2_id {r : R2} {x y z : D} (f : ∀ (K : PySem.W.Frag) (F H : Hp) (v u : V) (Qv : VK), Ex F H → Rep K F v x → Rep K F u y → (∀ v', (∀ F, Rep K F v' z) → Qv v' H) → r v u H Qv) : Op2 Γ r x y z := fun S F H v u Qv A rv ru q =>
  f Γ.K F H v u Qv A.ex rv ru fun v' h => q v' F H A (Grow.refl S F H) (h F)
theorem addI {i j : Int} : BinR Γ X .Add (.int i) (.int j) (.int (i + j)) := ⟨_, op_add, op2_id fun K F H v u Qv e rv ru q => by cases rv; cases ru; exact ⟨i, j, rfl, rfl, q _ fun _ => .int _⟩⟩
theorem subI {i j : Int} : BinR Γ X .Sub (.int i) (.int j) (.int (i - j)) := ⟨_, op_sub, op2_id fun K F H v u Qv e rv ru q => by cases rv; cases ru; exact ⟨i, j, rfl, rfl, q _ fun _ => .int _⟩⟩
theorem mulI {i j : Int} (h : CMul i j) : BinR Γ X .Mult (.int i) (.int j) (.int (i * j)) := ⟨_, op_mul, op2_id fun K F H v u Qv e rv ru q => by cases rv; cases ru; exact ⟨i, j, rfl, rfl, h, q _ fun _ => .int _⟩⟩
theorem divI {i j : Int} (h : CDiv i j) : BinR Γ X .FloorDiv (.int i) (.int j) (.int (i / j)) := ⟨_, op_fdiv, op2_id fun K F H v u Qv e rv ru q => by cases rv; cases ru; exact ⟨i, j, rfl, rfl, h, q _ fun _ => .int _⟩⟩
theorem modI {i j : Int} (h : 0 < j) : BinR Γ X .Mod (.int i) (.int j) (.int (i % j)) := ⟨_, op_mod, op2_id fun K F H v u Qv e rv ru q => by cases rv; cases ru; exact ⟨i, j, rfl, rfl, h, q _ fun _ => .int _⟩⟩
theorem powI {i j : Int} (h : CPow i j) : BinR Γ X .Pow (.int i) (.int j) (.int (i ^ j.toNat)) := ⟨_, op_pow, op2_id fun K F H v u Qv e rv ru q => by cases rv; cases ru; exact ⟨i, j, rfl, rfl, h, q _ fun _ => .int _⟩⟩
theorem str_app (s t : List Nat) : (⟨s.toArray⟩ : Str) ++ (⟨t.toArray⟩ : Str) = ⟨(s ++ t).toArray⟩ := by
  show (⟨s.toArray ++ t.toArray⟩ : Str) = _
  rw [List.append_toArray]
theorem addS {s t : List Nat} (h : s.length + t.length ≤ 100000) : BinR Γ X .Add (.str s) (.str t) (.str (s ++ t)) := ⟨_, op_add_str, op2_id fun K F H v u Qv e rv ru q => by
  cases rv; cases ru
  refine ⟨_, _, rfl, rfl, sz_le (by simpa [Str.length] using h), q _ fun F => ?_⟩
  rw [str_app]
  exact .str _⟩
theorem addL {xs ys : List D} (h : xs.length + ys.length ≤ 100000) : BinR Γ X .Add (.lst xs) (.lst ys) (.lst (xs ++ ys)) := ⟨_, op_cat, fun S F H v u Qv A rv ru q => by
  cases rv with
  | lst h1 r1 =>
    cases ru with
    | lst h2 r2 =>
      refine ⟨_, _, _, _, rfl, rfl, A.ex _ _ h1, A.ex _ _ h2, sz_le (by rw [r1.length, r2.length]; exact h), fun p hp => ?_⟩
      exact q _ _ _ (A.frozen hp) (A.g_frozen hp) (.lst upd_same ((r1.append r2).mono (Evl.Ex.new (A.fnone hp))))⟩
theorem addT {xs ys : List D} (G : Gd Γ X N nm k B E) (h : xs.length + ys.length ≤ 100000) (hx : xs ≠ []) (hy : ys ≠ []) : BinR Γ X .Add (.tup xs) (.tup ys) (.tup (xs ++ ys)) := ⟨_, op_catT, fun S F H v u Qv A rv ru q => by
  cases rv with
  | tup h1 r1 =>
    cases ru with
    | tup h2 r2 =>
      have n1 : ∀ {vs : List V} {ds : List D}, RepL Γ.K F vs ds → ds ≠ [] → vs ≠ [] := fun r n z => by
        subst z
        cases r
        exact n rfl
      rw [G.hK]
      refine ⟨_, _, _, _, rfl, rfl, ex_sqt A.ex h1, ex_sqt A.ex h2, n1 r1 hx, sz_le (by rw [r1.length, r2.length]; exact h), fun z => absurd z (n1 r2 hy), fun _ p hp => ?_⟩
      exact q _ _ _ (A.frozen hp) (A.g_frozen hp) (.tup (SqT.of upd_same) ((r1.append r2).mono (Evl.Ex.new (A.fnone hp))))⟩
theorem RepL.flat {K : PySem.W.Frag} {vs : List V} {ds : List D} (r : RepL K F vs ds) : ∀ n : Nat, RepL K F (List.replicate n vs).flatten (List.replicate n ds).flatten
  | 0 => .nil
  | n + 1 => by
    rw [List.replicate_succ, List.replicate_succ, List.flatten_cons, List.flatten_cons]
    exact r.append (RepL.flat r n)
theorem mulL {xs : List D} {n : Int} (h : xs.length * n.toNat ≤ 100000) (h1 : 0 ≤ n) (h2 : n ≤ 100000) : BinR Γ X .Mult (.lst xs) (.int n) (.lst (List.replicate n.toNat xs).flatten) := ⟨_, op_rep, fun S F H v u Qv A rv ru q => by
  cases ru
  cases rv with
  | lst hl r1 =>
    refine ⟨_, _, _, rfl, rfl, A.ex _ _ hl, by omega, by omega, sz_le (by rw [r1.length]; exact h), fun p hp => ?_⟩
    exact q _ _ _ (A.frozen hp) (A.g_frozen hp) (.lst upd_same ((r1.flat n.toNat).mono (Evl.Ex.new (A.fnone hp))))⟩

theorem ltI {i j : Int} : CmpR Γ X .Lt (.int i) (.int j) (decide (i < j)) := ⟨_, op_lt, op2_id fun K F H v u Qv e rv ru q => by cases rv; cases ru; exact ⟨i, j, rfl, rfl, q _ fun _ => .bl _⟩⟩
theorem leI {i j : Int} : CmpR Γ X .LtE (.int i) (.int j) (decide (i ≤ j)) := ⟨_, op_le, op2_id fun K F H v u Qv e rv ru q => by cases rv; cases ru; exact ⟨i, j, rfl, rfl, q _ fun _ => .bl _⟩⟩
theorem gtI {i j : Int} : CmpR Γ X .Gt (.int i) (.int j) (decide (j < i)) := ⟨_, op_gt, op2_id fun K F H v u Qv e rv ru q => by cases rv; cases ru; exact ⟨i, j, rfl, rfl, q _ fun _ => .bl _⟩⟩
theorem geI {i j : Int} : CmpR Γ X .GtE (.int i) (.int j) (decide (j ≤ i)) := ⟨_, op_ge, op2_id fun K F H v u Qv e rv ru q => by cases rv; cases ru; exact ⟨i, j, rfl, rfl, q _ fun _ => .bl _⟩⟩
theorem eqI {i j : Int} : CmpR Γ X .Eq (.int i) (.int j) (decide (i = j)) := ⟨_, op_eq, op2_id fun K F H v u Qv e rv ru q => by
  cases rv; cases ru
  refine ⟨rfl, q _ fun F => ?_⟩
  rw [show decide (V.int i = V.int j) = decide (i = j) from decide_eq_decide.mpr ⟨fun h => V.int.inj h, fun h => by rw [h]⟩]
  exact .bl _⟩
theorem neI {i j : Int} : CmpR Γ X .NotEq (.int i) (.int j) (!decide (i = j)) := ⟨_, op_ne, op2_id fun K F H v u Qv e rv ru q => by
  cases rv; cases ru
  refine ⟨rfl, q _ fun F => ?_⟩
  rw [show decide (V.int i = V.int j) = decide (i = j) from decide_eq_decide.mpr ⟨fun h => V.int.inj h, fun h => by rw [h]⟩]
  exact .bl _⟩
theorem vstr_inj {s t : List Nat} : V.str ⟨s.toArray⟩ = V.str ⟨t.toArray⟩ ↔ s = t := ⟨fun h => by
  have h1 := V.str.inj h
  injection h1 with h2
  exact (List.toArray_inj h2), fun h => by rw [h]⟩
theorem eqS {s t : List Nat} : CmpR Γ X .Eq (.str s) (.str t) (decide (s = t)) := ⟨_, op_eq, op2_id fun K F H v u Qv e rv ru q => by
  cases rv; cases ru
  refine ⟨rfl, q _ fun F => ?_⟩
  rw [show decide (V.str ⟨s.toArray⟩ = V.str ⟨t.toArray⟩) = decide (s = t) from decide_eq_decide.mpr vstr_inj]
  exact .bl _⟩
theorem neS {s t : List Nat} : CmpR Γ X .NotEq (.str s) (.str t) (!decide (s = t)) := ⟨_, op_ne, op2_id fun K F H v u Qv e rv ru q => by
  cases rv; cases ru
  refine ⟨rfl, q _ fun F => ?_⟩
  rw [show decide (V.str ⟨s.toArray⟩ = V.str ⟨t.toArray⟩) = decide (s = t) from decide_eq_decide.mpr vstr_inj]
  exact .bl _⟩
def isNon : D → Bool
  | .non => true
  | _ => false
theorem isNon_v {K : PySem.W.Frag} {v : V} {d : D} (r : Rep K F v d) : decide (v = .non) = isNon d := by
  cases r <;> first | rfl | exact decide_eq_false (fun z => by cases z)
theorem isN {x : D} : CmpR Γ X .Is x .non (isNon x) := ⟨_, op_isN, op2_id fun K F H v u Qv e rv ru q => by
  cases ru
  refine ⟨rfl, q _ fun F => ?_⟩
  rw [isNon_v rv]
  exact .bl _⟩
theorem notN {x : D} : CmpR Γ X .IsNot x .non (!isNon x) := ⟨_, op_notN, op2_id fun K F H v u Qv e rv ru q => by
  cases ru
  refine ⟨rfl, q _ fun F => ?_⟩
  rw [isNon_v rv]
  exact .bl _⟩
/-- one sign in a text -/
theorem inC {c : Nat} {t : List Nat} : CmpR Γ X .In (.str [c]) (.str t) (decide (c ∈ t)) := ⟨_, op_in_sign, op2_id fun K F H v u Qv e rv ru q => by
  cases rv; cases ru
  exact ⟨c, _, rfl, rfl, q _ fun F => .bl _⟩⟩
theorem leS {s t : List Nat} : CmpR Γ X .LtE (.str s) (.str t) (!decide (t < s)) := ⟨_, op_le_str, op2_id fun K F H v u Qv e rv ru q => by
  cases rv; cases ru
  exact ⟨_, _, rfl, rfl, q _ fun F => .bl _⟩⟩

theorem subS {s : List Nat} {i : Int} {c : Nat} (h : s.length ≤ 100000) (hc : atI s i = some c) : SubR Γ X (.str s) (.int i) (.str [c]) := ⟨_, ix_str, op2_id fun K F H v u Qv e rv ru q => by
  cases rv; cases ru
  exact ⟨_, i, c, rfl, rfl, sz_le (by simpa [Str.length] using h), hc, q _ fun F => .str [c]⟩⟩
theorem RepL.atI {K : PySem.W.Frag} {vs : List V} {ds : List D} (r : RepL K F vs ds) {i : Int} {d : D} (h : L2.atI ds i = some d) : ∃ v, L2.atI vs i = some v ∧ Rep K F v d := by
  unfold L2.atI at h ⊢
  rw [r.length]
  cases e : ixN ds.length i with
  | none =>
    rw [e] at h
    cases h
  | some j =>
    rw [e] at h
    obtain ⟨v, h1, h2⟩ := r.get h
    exact ⟨v, h1, h2⟩
theorem subL {xs : List D} {i : Int} {d : D} (G : Gd Γ X N nm k B E) (h : atI xs i = some d) : SubR Γ X (.lst xs) (.int i) d := ⟨_, ix_list, fun S F H v u Qv A rv ru q => by
  cases ru
  cases rv with
  | lst h1 r1 =>
    obtain ⟨w, h2, h3⟩ := r1.atI h
    exact ⟨_, _, i, w, rfl, rfl, SqL.of (A.ex _ _ h1), h2, q _ F H A (Grow.refl S F H) h3⟩⟩
theorem subT {xs : List D} {i : Int} {d : D} (G : Gd Γ X N nm k B E) (h : atI xs i = some d) : SubR Γ X (.tup xs) (.int i) d := ⟨_, ix_tup, fun S F H v u Qv A rv ru q => by
  cases ru
  cases rv with
  | tup h1 r1 =>
    obtain ⟨w, h2, h3⟩ := r1.atI h
    rw [G.hK]
    exact ⟨_, _, i, w, rfl, rfl, ex_sqt A.ex h1, h2, q _ F H A (Grow.refl S F H) h3⟩⟩
theorem subC {ns : List Int} {i n : Int} (G : Gd Γ X N nm k B E) (h : atI ns i = some n) : SubR Γ X (.scr ns) (.int i) (.int n) := ⟨_, ix_list, fun S F H v u Qv A rv ru q => by
  cases ru
  cases rv with
  | scr h1 =>
    rw [G.hK]
    refine ⟨_, _, i, .int n, rfl, rfl, ex_sql A.ex h1, ?_, q _ F H A (Grow.refl S F H) (.int n)⟩
    unfold L2.atI at h ⊢
    rw [List.length_map]
    cases e : ixN ns.length i with
    | none =>
      rw [e] at h
      cases h
    | some j =>
      rw [e] at h
      show (ns.map V.int)[j]? = _
      rw [List.getElem?_map, show ns[j]? = some n from h]
      rfl⟩
/-- a slice of a text, of a list -/
def cutN (s : List Nat) (lo hi : Option Int) : List Nat := (s.drop (HT.sIx s.length 0 lo)).take (HT.sIx s.length s.length hi - HT.sIx s.length 0 lo)
def cutD (s : List D) (lo hi : Option Int) : List D := (s.drop (HT.sIx s.length 0 lo)).take (HT.sIx s.length s.length hi - HT.sIx s.length 0 lo)
theorem slcS {s : List Nat} {lo hi : Option Int} (h : s.length ≤ 100000) : SlcR Γ X (.str s) lo hi (.str (cutN s lo hi)) := ⟨_, sl_str, fun S F H v Qv A rv q => by
  cases rv
  refine ⟨_, rfl, sz_le (by simpa [Str.length] using h), q _ F H A (Grow.refl S F H) ?_⟩
  exact .str (cutN s lo hi)⟩
theorem slcL {xs : List D} {lo hi : Option Int} (G : Gd Γ X N nm k B E) : SlcR Γ X (.lst xs) lo hi (.lst (cutD xs lo hi)) := ⟨_, sl_list, fun S F H v Qv A rv q => by
  cases rv with
  | lst h1 r1 =>
    refine ⟨_, _, rfl, SqL.of (A.ex _ _ h1), fun p hp => ?_⟩
    refine q _ _ _ (A.frozen hp) (A.g_frozen hp) (.lst upd_same ?_)
    refine RepL.mono (Evl.Ex.new (A.fnone hp)) ?_
    unfold cutV cutD
    rw [r1.length]
    exact (r1.drop _).take _⟩

theorem opA_id {r : List V → Hp → VK → Prop} {xs : List D} {z : D} (f : ∀ (K : PySem.W.Frag) (F H : Hp) (vs : List V) (Qv : VK), Ex F H → RepL K F vs xs → (∀ v', (∀ F, Rep K F v' z) → Qv v' H) → r vs H Qv) : OpA Γ r xs z := fun S F H vs Qv A r q =>
  f Γ.K F H vs Qv A.ex r fun v' h => q v' F H A (Grow.refl S F H) (h F)
theorem lenS {s : List Nat} (h : s.length ≤ 100000) : BltR Γ X (.builtin "len") [.str s] (.int (s.length : Nat)) := ⟨_, call_len_str, opA_id fun K F H vs Qv e r q => by
  cases r with
  | cons r1 rr =>
    cases rr; cases r1
    refine ⟨_, rfl, sz_le (by simpa [Str.length] using h), q _ fun F => ?_⟩
    have e2 : ((⟨s.toArray⟩ : Str).length) = s.length := by simp [Str.length]
    rw [e2]
    exact .int _⟩
theorem lenL {xs : List D} (G : Gd Γ X N nm k B E) : BltR Γ X (.builtin "len") [.lst xs] (.int (xs.length : Nat)) := ⟨_, call_len_seq, fun S F H vs Qv A r q => by
  cases r with
  | cons r1 rr =>
    cases rr
    cases r1 with
    | lst h1 r1 =>
      refine ⟨_, _, rfl, .inl (SqL.of (A.ex _ _ h1)), ?_⟩
      rw [r1.length]
      exact q _ F H A (Grow.refl S F H) (.int _)⟩
theorem lenT {xs : List D} (G : Gd Γ X N nm k B E) : BltR Γ X (.builtin "len") [.tup xs] (.int (xs.length : Nat)) := ⟨_, call_len_seq, fun S F H vs Qv A r q => by
  cases r with
  | cons r1 rr =>
    cases rr
    cases r1 with
    | tup h1 r1 =>
      refine ⟨_, _, rfl, .inr (by rw [G.hK]; exact ex_sqt A.ex h1), ?_⟩
      rw [r1.length]
      exact q _ F H A (Grow.refl S F H) (.int _)⟩
theorem lenC {ns : List Int} (G : Gd Γ X N nm k B E) : BltR Γ X (.builtin "len") [.scr ns] (.int (ns.length : Nat)) := ⟨_, call_len_seq, fun S F H vs Qv A r q => by
  cases r with
  | cons r1 rr =>
    cases rr
    cases r1 with
    | scr h1 =>
      refine ⟨_, _, rfl, .inl (by rw [G.hK]; exact ex_sql A.ex h1), ?_⟩
      rw [List.length_map]
      exact q _ F H A (Grow.refl S F H) (.int _)⟩
theorem ordS {c : Nat} : BltR Γ X (.builtin "ord") [.str [c]] (.int (c : Nat)) := ⟨_, call_ord, opA_id fun K F H vs Qv e r q => by
  cases r with
  | cons r1 rr =>
    cases rr; cases r1
    exact ⟨_, rfl, rfl, q _ fun F => .int _⟩⟩
theorem absI {i : Int} : BltR Γ X (.builtin "abs") [.int i] (.int (if i < 0 then -i else i)) := ⟨_, call_abs, opA_id fun K F H vs Qv e r q => by
  cases r with
  | cons r1 rr =>
    cases rr; cases r1
    exact ⟨i, rfl, q _ fun F => .int _⟩⟩
theorem max2 {i j : Int} (G : Gd Γ X N nm k B E) : BltR Γ X (.builtin "max") [.int i, .int j] (.int (max i j)) := ⟨_, call_max2 G.calm, opA_id fun K F H vs Qv e r q => by
  cases r with
  | cons r1 rr =>
    cases rr with
    | cons r2 rr =>
      cases rr; cases r1; cases r2
      refine ⟨i, j, rfl, q _ fun F => ?_⟩
      rw [show (if j > i then j else i) = max i j by
        by_cases h : j > i
        · rw [if_pos h]; omega
        · rw [if_neg h]; omega]
      exact .int _⟩
theorem min2 {i j : Int} (G : Gd Γ X N nm k B E) : BltR Γ X (.builtin "min") [.int i, .int j] (.int (min i j)) := ⟨_, call_min2 G.calm, opA_id fun K F H vs Qv e r q => by
  cases r with
  | cons r1 rr =>
    cases rr with
    | cons r2 rr =>
      cases rr; cases r1; cases r2
      refine ⟨i, j, rfl, q _ fun F => ?_⟩
      rw [show (if j < i then j else i) = min i j by
        by_cases h : j < i
        · rw [if_pos h]; omega
        · rw [if_neg h]; omega]
      exact .int _⟩
theorem allL {bs : List Bool} (G : Gd Γ X N nm k B E) : BltR Γ X (.builtin "all") [.lst (bs.map .bl)] (.bl (bs.all id)) := ⟨_, cr_all G.calm, fun S F H vs Qv A r q => by
  cases r with
  | cons r1 rr =>
    cases rr
    cases r1 with
    | lst h1 r1 =>
      exact ⟨_, bs, rfl, SqL.of (A.ex _ _ (by rw [h1, r1.bools])), q _ F H A (Grow.refl S F H) (.bl _)⟩⟩
theorem sumL {ns : List Int} (G : Gd Γ X N nm k B E) : BltR Γ X (.builtin "sum") [.lst (ns.map .int)] (.int ns.sum) := ⟨_, cr_sum G.calm, fun S F H vs Qv A r q => by
  cases r with
  | cons r1 rr =>
    cases rr
    cases r1 with
    | lst h1 r1 =>
      exact ⟨_, ns, rfl, SqL.of (A.ex _ _ (by rw [h1, r1.ints])), q _ F H A (Grow.refl S F H) (.int _)⟩⟩
theorem maxL {ns : List Int} {m : Int} (G : Gd Γ X N nm k B E) (h1 : m ∈ ns) (h2 : ∀ y ∈ ns, y ≤ m) : BltR Γ X (.builtin "max") [.lst (ns.map .int)] (.int m) := ⟨_, cr_max G.calm, fun S F H vs Qv A r q => by
  cases r with
  | cons r1 rr =>
    cases rr
    cases r1 with
    | lst hl r1 =>
      refine ⟨_, ns, rfl, SqL.of (A.ex _ _ (by rw [hl, r1.ints])), List.length_pos_of_mem h1, fun m' h3 h4 => ?_⟩
      have e : m' = m := Int.le_antisymm (h2 _ h3) (h4 _ h1)
      rw [e]
      exact q _ F H A (Grow.refl S F H) (.int _)⟩
theorem minL {ns : List Int} {m : Int} (G : Gd Γ X N nm k B E) (h1 : m ∈ ns) (h2 : ∀ y ∈ ns, m ≤ y) : BltR Γ X (.builtin "min") [.lst (ns.map .int)] (.int m) := ⟨_, cr_min G.calm, fun S F H vs Qv A r q => by
  cases r with
  | cons r1 rr =>
    cases rr
    cases r1 with
    | lst hl r1 =>
      refine ⟨_, ns, rfl, SqL.of (A.ex _ _ (by rw [hl, r1.ints])), List.length_pos_of_mem h1, fun m' h3 h4 => ?_⟩
      have e : m' = m := Int.le_antisymm (h4 _ h1) (h2 _ h3)
      rw [e]
      exact q _ F H A (Grow.refl S F H) (.int _)⟩
theorem intI {i : Int} : BltR Γ X (.type "int") [.int i] (.int i) := ⟨_, call_int1, opA_id fun K F H vs Qv e r q => by
  cases r with
  | cons r1 rr =>
    cases rr; cases r1
    exact .inl ⟨i, rfl, q _ fun F => .int _⟩⟩
theorem intB {z : Bool} : BltR Γ X (.type "int") [.bl z] (.int (if z = true then 1 else 0)) := ⟨_, call_int1, opA_id fun K F H vs Qv e r q => by
  cases r with
  | cons r1 rr =>
    cases rr; cases r1
    refine .inr ⟨z, rfl, q _ fun F => ?_⟩
    cases z <;> exact .int _⟩
end
end CR

end

section
namespace CR
open PySem PySem.Spec PyProof.Rows L2

theorem opI {α : Sort _} {P Q : α → Prop} {z : α} (h : P z) (q : Q z) : ∃ z, P z ∧ Q z := ⟨z, h, q⟩
/-- the name x holds d -/
inductive At : List Str → Str → List Sl → Sl → Prop
  | hd {x : Str} {N : List Str} {d : Sl} {ρ : List Sl} : At (x :: N) x (d :: ρ) d
  | tl {x y : Str} {N : List Str} {d s : Sl} {ρ : List Sl} (h : At N x ρ d) : At (y :: N) x (s :: ρ) d
/-- the name x may be given: the slots behind it -/
inductive UpF : List Str → Str → List Sl → (Sl → List Sl) → Prop
  | hd {x : Str} {N : List Str} {s : Sl} {ρ : List Sl} : UpF (x :: N) x (s :: ρ) (fun t => t :: ρ)
  | tl {x y : Str} {N : List Str} {s : Sl} {ρ : List Sl} {f : Sl → List Sl} (h : UpF N x ρ f) : UpF (y :: N) x (s :: ρ) (fun t => s :: f t)
/-- what kind of name x is -/
inductive Kd : List (Str × NameKind) → Str → NameKind → Prop
  | hd {x : Str} {k : NameKind} {r : List (Str × NameKind)} : Kd ((x, k) :: r) x k
  | tl {x : Str} {y : Str × NameKind} {k : NameKind} {r : List (Str × NameKind)} (h : Kd r x k) : Kd (y :: r) x k
theorem At.ix {N : List Str} {x : Str} {ρ : List Sl} {d : Sl} (h : At N x ρ d) : ∃ i : Nat, N[i]? = some x ∧ ρ[i]? = some d := by
  induction h with
  | hd => exact ⟨0, rfl, rfl⟩
  | tl _ ih =>
    obtain ⟨i, h1, h2⟩ := ih
    exact ⟨i + 1, by simpa using h1, by simpa using h2⟩
theorem UpF.ix {N : List Str} {x : Str} {ρ : List Sl} {f : Sl → List Sl} (h : UpF N x ρ f) : ∃ i : Nat, N[i]? = some x ∧ ∀ t, ρ.set i t = f t := by
  induction h with
  | hd => exact ⟨0, rfl, fun t => rfl⟩
  | tl _ ih =>
    obtain ⟨i, h1, h2⟩ := ih
    exact ⟨i + 1, by simpa using h1, fun t => by rw [List.set_cons_succ, h2]⟩
theorem Kd.mem {nm : List (Str × NameKind)} {x : Str} {k : NameKind} (h : Kd nm x k) : (x, k) ∈ nm := by
  induction h with
  | hd => exact List.mem_cons_self
  | tl _ ih => exact List.mem_cons_of_mem _ ih
theorem Kd.lk {nm : List (Str × NameKind)} {x : Str} {k : NameKind} (u : Uq nm) (h : Kd nm x k) : nm.lookup x = some k := u _ h.mem
/-- a name of one's own -/
def KdV (nm : List (Str × NameKind)) (x : Str) : Prop := Kd nm x .local ∨ Kd nm x .cell ∨ Kd nm x .free

section
variable {Γ : Wd} {X : Cx} {B : Bs} {e a b c o tg it elt : Expr} {lo hi : Option Expr} {es ifs tgs : List Expr} {st : Stmt} {sts body : List Stmt} {ρ ρ' : List Sl} {S : Sto} {N : List Str} {nm : List (Str × NameKind)} {k j : Nat} {E : EK} {pos p p2 apos cpos px pl : Pos}
variable {F H F' H' : Hp} {S' : Sto} {σ : L2.St} {d : D} {Q : D → Sto → Prop} {QB : Bool → Sto → Prop} {QA : List D → Sto → Prop} {Dd : Dn} {x m : Str} {Φ : FnS} {i : Nat} {f : Sl → List Sl} {xs : List D}
theorem KdV.v (u : Uq nm) (h : KdV nm x) : nm.lookup x = some .local ∨ nm.lookup x = some .cell ∨ nm.lookup x = some .free := by
  rcases h with h | h | h
  · exact .inl (h.lk u)
  · exact .inr (.inl (h.lk u))
  · exact .inr (.inr (h.lk u))
theorem eN (G : Gd Γ X N nm k B E) (h : At N x ρ (.val d)) (hv : KdV nm x) (q : Q d S) (hd : (x == ("__debug__" : Str)) = false := by decide) (hcd : (x == ("__classdict__" : Str)) = false := by decide) : wE Γ X B (.Name x pos) ρ S Q := by
  obtain ⟨i, h1, h2⟩ := h.ix
  exact wE_name G h1 (hv.v G.uq) h2 q hd hcd
theorem sSet (G : Gs Γ X N nm k B E) (hu : UpF N x ρ f) (hx : Kd nm x .local ∨ Kd nm x .cell) (h : wE Γ X B a ρ S fun d S1 => Dd.nx (f (.val d)) S1) (hs : swapsWith a (some (.Name x px)) pos.line X.env = pure false := by rfl) :
    wS Γ X B (.Assign [.Name x px] a pos) ρ S Dd := by
  obtain ⟨i, h1, h2⟩ := hu.ix
  refine wS_set G h1 (hx.imp (Kd.lk G.g.uq) (Kd.lk G.g.uq)) ?_ hs
  simp only [h2]
  exact h
theorem sOwn (G : Gs Γ X N nm k B E) (hu : UpF N x ρ f) (hx : Kd nm x .local ∨ Kd nm x .cell) (h : wA Γ X B es ρ S fun xs S1 => xs.length ≤ 100000 ∧ Dd.nx (f (.own xs)) S1) :
    wS Γ X B (.Assign [.Name x px] (.List es pl) pos) ρ S Dd := by
  obtain ⟨i, h1, h2⟩ := hu.ix
  refine wS_setOwn G h1 (hx.imp (Kd.lk G.g.uq) (Kd.lk G.g.uq)) ?_
  simp only [h2]
  exact h
theorem At.same {N : List Str} {x : Str} {ρ : List Sl} {d : Sl} {f : Sl → List Sl} (h : At N x ρ d) (hu : UpF N x ρ f) (nd : N.Nodup) : ∃ i : Nat, N[i]? = some x ∧ ρ[i]? = some d ∧ ∀ t, ρ.set i t = f t := by
  obtain ⟨i, h1, h2⟩ := h.ix
  obtain ⟨j, h3, h4⟩ := hu.ix
  have e := nodup_ix nd h1 h3
  subst e
  exact ⟨i, h1, h2, h4⟩
theorem sApp {pa : Pos} (G : Gs Γ X N nm k B E) (ha : At N x ρ (.own xs)) (hu : UpF N x ρ f) (hv : KdV nm x) (h : wE Γ X B a ρ S fun d S1 => xs.length < 100000 ∧ Dd.nx (f (.own (xs ++ [d]))) S1)
    (hd : (x == ("__debug__" : Str)) = false := by decide) (hcd : (x == ("__classdict__" : Str)) = false := by decide)
    (hfew : ((backTo p (starEach [a] X.env)).all (fun x => !x.1) && (backToKw p (keywordEach [] X.env)).all (fun x => x.1.isSome)
      && decide ([a].length + ([] : List Keyword).length + (if ([] : List Keyword).isEmpty then 0 else 1) < 30)) = true := by rfl)
    (hline : (pa.endLine == p.line) = true := by rfl) (hst : starEach [a] X.env = (false, eval a X.env) :: starEach [] X.env := by rfl) :
    wS Γ X B (.Expr (.Call (.Attribute (.Name x px) "append" pa) [a] [] p) pos) ρ S Dd := .mk fun F H σ c => by
  obtain ⟨i, h1, h2, h3⟩ := ha.same hu G.g.nd
  by_cases hl : xs.length < 100000
  · refine (wS_append G h1 (hv.v G.g.uq) h2 hl ?_ hd hcd hfew hline hst).run F H σ c
    refine h.mono fun d S1 q => ?_
    rw [h3]
    exact q.2
  · have hi' : X.N[i]? = some x := by rw [G.g.hN]; exact h1
    have hv' : Vis X.env.scope x := by unfold Vis; rw [G.g.hn]; exact (hv.v G.g.uq)
    refine (ps_expr (pe_bm PySem.F.plainAttrs_list PySem.F.slot_list_append PySem.F.type_list_append mt_append (pe_var hi' hv' hd hcd) (pa_cons pe_w pa_nil hst) rfl hfew hline hst rfl) rfl).tw ?_
    obtain ⟨l, vs, h1, h2, _⟩ := c.2.1.own_at h2
    refine ⟨.ref l, h1, .inl ⟨rfl, _, SqL.of h2⟩, ?_⟩
    exact (h.run F H σ c).mono fun v H1 ⟨F1, d, S1, A1, g1, r1, q⟩ => absurd q.1 hl
theorem sExt {pa : Pos} (G : Gs Γ X N nm k B E) (ha : At N x ρ (.own xs)) (hu : UpF N x ρ f) (hv : KdV nm x) (h : wE Γ X B a ρ S fun d S1 => ∃ ys, d = .lst ys ∧ xs.length + ys.length ≤ 100000 ∧ Dd.nx (f (.own (xs ++ ys))) S1)
    (hd : (x == ("__debug__" : Str)) = false := by decide) (hcd : (x == ("__classdict__" : Str)) = false := by decide)
    (hfew : ((backTo p (starEach [a] X.env)).all (fun x => !x.1) && (backToKw p (keywordEach [] X.env)).all (fun x => x.1.isSome)
      && decide ([a].length + ([] : List Keyword).length + (if ([] : List Keyword).isEmpty then 0 else 1) < 30)) = true := by rfl)
    (hline : (pa.endLine == p.line) = true := by rfl) (hst : starEach [a] X.env = (false, eval a X.env) :: starEach [] X.env := by rfl) :
    wS Γ X B (.Expr (.Call (.Attribute (.Name x px) "extend" pa) [a] [] p) pos) ρ S Dd := by
  obtain ⟨i, h1, h2, h3⟩ := ha.same hu G.g.nd
  refine wS_extend G h1 (hv.v G.g.uq) h2 ?_ hd hcd hfew hline hst
  refine h.mono fun d S1 ⟨ys, e, hl, q⟩ => ⟨ys, e, hl, ?_⟩
  rw [h3]
  exact q
/-- return x, x's list the slot's own; a slot's own list frozen ahead of a statement -/
theorem sFrz {x : Str} (G : Gs Γ X N nm k B E) (ha : At N x ρ (.own xs)) (hu : UpF N x ρ f) (h : wSs Γ X B sts (f (.val (.lst xs))) S Dd) : wSs Γ X B sts ρ S Dd := by
  obtain ⟨i, h1, h2, h3⟩ := ha.same hu G.g.nd
  refine wSs_freeze i h2 ?_
  rw [h3]
  exact h
theorem eCall (G : Gd Γ X N nm k B E) (h : Fn Γ x j Φ) (hj : j ≤ k) (hg : Kd nm x .globalImplicit) (ha : wA Γ X B (e :: es) ρ S fun ds S1 => Φ ds S1 Q (fun C S2 => E C ρ S2)) (hdb : (x == ("__debug__" : Str)) = false := by decide)
    (he : starEach (e :: es) X.env = (false, eval e X.env) :: starEach es X.env := by rfl) (hpl : (backTo pos (starEach es X.env)).any (·.1) = false := by rfl) : wE Γ X B (.Call (.Name x p) (e :: es) [] pos) ρ S Q := wE_call G h hj (hg.lk G.uq) ha hdb he hpl
theorem eGlob (G : Gd Γ X N nm k B E) (g : GlV Γ x d) (hg : Kd nm x .globalImplicit) (q : Q d S) (hd : (x == ("__debug__" : Str)) = false := by decide) : wE Γ X B (.Name x pos) ρ S Q := wE_glob G g (hg.lk G.uq) q hd
/-- the built-in functions, the built-in classes -/
inductive Bfn : Str → String → Prop
  | len : Bfn "len" "len" | ord : Bfn "ord" "ord" | abs : Bfn "abs" "abs" | max : Bfn "max" "max" | min : Bfn "min" "min" | all : Bfn "all" "all" | sum : Bfn "sum" "sum" | sorted : Bfn "sorted" "sorted" | isinstance : Bfn "isinstance" "isinstance"
inductive Bty : Str → String → Prop
  | int : Bty "int" "int" | list : Bty "list" "list" | tuple : Bty "tuple" "tuple" | str : Bty "str" "str" | set : Bty "set" "set" | dict : Bty "dict" "dict"
theorem Bfn.boot {id : String} (h : Bfn x id) : bootBuiltins x = some (.builtin id) ∧ x ≠ "__name__" ∧ (x == ("__debug__" : Str)) = false := by
  cases h <;> exact ⟨by decide +kernel, by decide, by decide⟩
theorem Bty.boot {id : String} (h : Bty x id) : bootBuiltins x = some (.type id) ∧ x ≠ "__name__" ∧ (x == ("__debug__" : Str)) = false := by
  cases h <;> exact ⟨by decide +kernel, by decide, by decide⟩
theorem eBlt {id : String} (G : Gd Γ X N nm k B E) (hb : Bfn x id) (hg : Kd nm x .globalImplicit) (hm : Γ.mg x = none) (ha : wA Γ X B (e :: es) ρ S fun ds S1 => ∃ z, BltR Γ X (.builtin id) ds z ∧ Q z S1)
    (he : starEach (e :: es) X.env = (false, eval e X.env) :: starEach es X.env := by rfl) (hpl : (backTo pos (starEach es X.env)).any (·.1) = false := by rfl) :
    wE Γ X B (.Call (.Name x p) (e :: es) [] pos) ρ S Q := wE_blt G (hg.lk G.uq) hm hb.boot.1 ha hb.boot.2.1 hb.boot.2.2 he hpl
theorem eBty {id : String} (G : Gd Γ X N nm k B E) (hb : Bty x id) (hg : Kd nm x .globalImplicit) (hm : Γ.mg x = none) (ha : wA Γ X B (e :: es) ρ S fun ds S1 => ∃ z, BltR Γ X (.type id) ds z ∧ Q z S1)
    (he : starEach (e :: es) X.env = (false, eval e X.env) :: starEach es X.env := by rfl) (hpl : (backTo pos (starEach es X.env)).any (·.1) = false := by rfl) :
    wE Γ X B (.Call (.Name x p) (e :: es) [] pos) ρ S Q := wE_bty G (hg.lk G.uq) hm hb.boot.1 ha hb.boot.2.1 hb.boot.2.2 he hpl
theorem iR1 (G : Gd Γ X N nm k B E) (hg : Kd nm "range" .globalImplicit) (hm : Γ.mg ("range" : Str) = none) (h : wA Γ X B [a] ρ S fun ds S1 => ∃ n : Nat, ds = [.int (n : Int)] ∧ n ≤ 100000 ∧ QA ((List.range n).map fun i => D.int (i : Nat)) S1)
    (hs : starEach [a] X.env = [(false, eval a X.env)] := by rfl) : wI Γ X B tg (.Call (.Name "range" p) [a] [] pos) ρ S QA := wI_range1 G (hg.lk G.uq) hm h hs
theorem iR2 (G : Gd Γ X N nm k B E) (hg : Kd nm "range" .globalImplicit) (hm : Γ.mg ("range" : Str) = none)
    (h : wA Γ X B [a, b] ρ S fun ds S1 => ∃ lo hi : Int, ds = [.int lo, .int hi] ∧ (-100000 ≤ lo ∧ lo ≤ 100000 ∧ -100000 ≤ hi ∧ hi ≤ 100000) ∧ QA ((List.range (hi - lo).toNat).map fun i => D.int (lo + (i : Nat))) S1)
    (hs : starEach [a, b] X.env = [(false, eval a X.env), (false, eval b X.env)] := by rfl) (hs2 : starEach [b] X.env = [(false, eval b X.env)] := by rfl) : wI Γ X B tg (.Call (.Name "range" p) [a, b] [] pos) ρ S QA := wI_range2 G (hg.lk G.uq) hm h hs hs2
/-- over a text's signs -/
theorem iterD_s {K : PySem.W.Frag} (s : List Nat) : IterD K (Its ⟨s.toArray⟩) F (s.map fun c => D.str [c]) where
  go := fun i H e hi => by
    show i < s.toArray.size
    rw [List.length_map] at hi
    simpa using hi
  yl := fun i H x H' e ⟨h1, c, h2, h3⟩ => ⟨h1, fun d hd => by
    rw [List.getElem?_map] at hd
    have h4 : s[i]? = some c := by simpa using h2
    rw [h4] at hd
    rw [← Option.some.inj hd, h3]
    exact .str [c]⟩
  st := fun i H e hi => by
    show s.toArray.size ≤ i
    rw [List.length_map] at hi
    simpa using hi
theorem wI_str (h : wE Γ X B a ρ S fun d S1 => ∃ s, d = .str s ∧ QA (s.map fun c => D.str [c]) S1) : wI Γ X B tg a ρ S QA :=
  ⟨iStr (tW X a), pi_str pe_w, fun F H σ c R hR => (h.run F H σ c).mono fun v H1 ⟨F1, d, S1, A1, g1, r1, s, e, q⟩ => by
    subst e
    cases r1
    exact ⟨_, rfl, hR _ F1 H1 S1 _ A1 g1 (iterD_s s) q⟩⟩
theorem gN (G : Gd Γ X N nm k B E) {bh : Hp} {is : List Nat} {y : D} (hu : UpF N x ρ f) (hx : Kd nm x .local) (hm : ∀ i, N[i]? = some x → ∀ j, j ∉ is → i ≠ j) : wG Γ X bh (.Name x pos) is y ρ (f (.val y)) := by
  obtain ⟨i, h1, h2⟩ := hu.ix
  rw [← h2]
  exact wG_name G h1 (hx.lk G.uq) (hm i h1)

theorem atI_getD {α : Type} {xs : List α} {i : Int} (h0 : 0 ≤ i) (h1 : i < (xs.length : Int)) (dflt : α) : L2.atI xs i = some (xs.getD i.toNat dflt) := by
  obtain ⟨j, rfl⟩ : ∃ j : Nat, i = (j : Int) := ⟨i.toNat, by omega⟩
  have hj : j < xs.length := by omega
  refine atI_nat ?_
  rw [Int.toNat_natCast, List.getD_eq_getElem?_getD, List.getElem?_eq_getElem hj]
  rfl
theorem subSn {s : List Nat} {n : Nat} (h : s.length ≤ 100000) (h1 : n < s.length) : SubR Γ X (.str s) (.int (n : Int)) (.str [s.getD n 0]) := by
  refine subS h ?_
  have z := atI_getD (xs := s) (i := (n : Int)) (by omega) (by omega) 0
  rwa [Int.toNat_natCast] at z
theorem subSi {s : List Nat} {i : Int} (h : s.length ≤ 100000) (h0 : 0 ≤ i) (h1 : i < (s.length : Int)) : SubR Γ X (.str s) (.int i) (.str [s.getD i.toNat 0]) := subS h (atI_getD h0 h1 0)
theorem subLn {s : List D} {n : Nat} (G : Gd Γ X N nm k B E) (h1 : n < s.length) : SubR Γ X (.lst s) (.int (n : Int)) (s.getD n .non) := by
  refine subL G ?_
  have z := atI_getD (xs := s) (i := (n : Int)) (by omega) (by omega) D.non
  rwa [Int.toNat_natCast] at z
theorem subTn {s : List D} {n : Nat} (G : Gd Γ X N nm k B E) (h1 : n < s.length) : SubR Γ X (.tup s) (.int (n : Int)) (s.getD n .non) := by
  refine subT G ?_
  have z := atI_getD (xs := s) (i := (n : Int)) (by omega) (by omega) D.non
  rwa [Int.toNat_natCast] at z

def pT (Γ : Wd) (X : Cx) (B : Bs) (e : Expr) (ρ : List Sl) (S : Sto) (z : Bool) : Prop := ∀ QB : Bool → Sto → Prop, QB z S → wT Γ X B e ρ S QB
def pW (Γ : Wd) (X : Cx) (B : Bs) (e : Expr) (ρ : List Sl) (S : Sto) (z : Bool) : Prop := ∀ QB : Bool → Sto → Prop, QB z S → wW Γ X B e ρ S QB
def pE (Γ : Wd) (X : Cx) (B : Bs) (e : Expr) (ρ : List Sl) (S : Sto) (d : D) : Prop := ∀ Q : D → Sto → Prop, Q d S → wE Γ X B e ρ S Q
theorem wT_p {z : Bool} (h : pT Γ X B e ρ S z) (q : QB z S) : wT Γ X B e ρ S QB := h _ q
theorem wE_p (h : pE Γ X B e ρ S d) (q : Q d S) : wE Γ X B e ρ S Q := h _ q
theorem pT_W {z : Bool} (h : pW Γ X B e ρ S z) : pT Γ X B e ρ S z := fun _ q => wT_W (h _ q)
theorem pW_and {y z : Bool} (h1 : pT Γ X B a ρ S y) (h2 : y = true → pW Γ X B (.BoolOp .And (b :: es) pos) ρ S z) : pW Γ X B (.BoolOp .And (a :: b :: es) pos) ρ S (y && z) := fun QB q => by
  refine wW_and (h1 _ ⟨fun hy => ?_, fun hy => ?_⟩)
  · subst hy
    exact h2 rfl _ q
  · subst hy
    exact q
theorem pW_and1 {y : Bool} (h1 : pT Γ X B a ρ S y) : pW Γ X B (.BoolOp .And [a] pos) ρ S y := fun QB q => wW_and1 (h1 _ q)
theorem pW_or {y z : Bool} (h1 : pT Γ X B a ρ S y) (h2 : y = false → pW Γ X B (.BoolOp .Or (b :: es) pos) ρ S z) : pW Γ X B (.BoolOp .Or (a :: b :: es) pos) ρ S (y || z) := fun QB q => by
  refine wW_or (h1 _ ⟨fun hy => ?_, fun hy => ?_⟩)
  · subst hy
    exact q
  · subst hy
    exact h2 rfl _ q
theorem pW_or1 {y : Bool} (h1 : pT Γ X B a ρ S y) : pW Γ X B (.BoolOp .Or [a] pos) ρ S y := fun QB q => wW_or1 (h1 _ q)
theorem pT_not {y : Bool} (h1 : pT Γ X B a ρ S y) : pT Γ X B (.UnaryOp .Not a pos) ρ S (!y) := fun QB q => wT_not (h1 _ q)
theorem pE_and {y z : Bool} (h1 : pE Γ X B a ρ S (.bl y)) (h2 : y = true → pE Γ X B (.BoolOp .And (b :: es) pos) ρ S (.bl z)) : pE Γ X B (.BoolOp .And (a :: b :: es) pos) ρ S (.bl (y && z)) := fun Q q => by
  refine wE_and (h1 _ ⟨y, rfl, fun hy => ?_, fun hy => ?_⟩)
  · subst hy
    exact h2 rfl _ q
  · subst hy
    exact q
theorem pE_or {y z : Bool} (h1 : pE Γ X B a ρ S (.bl y)) (h2 : y = false → pE Γ X B (.BoolOp .Or (b :: es) pos) ρ S (.bl z)) : pE Γ X B (.BoolOp .Or (a :: b :: es) pos) ρ S (.bl (y || z)) := fun Q q => by
  refine wE_or (h1 _ ⟨y, rfl, fun hy => ?_, fun hy => ?_⟩)
  · subst hy
    exact q
  · subst hy
    exact h2 rfl _ q
theorem pE_one {op : BoolOp} (h1 : pE Γ X B a ρ S d) : pE Γ X B (.BoolOp op [a] pos) ρ S d := fun Q q => wE_one (h1 _ q)
end
end CR

end

section
namespace CR
open PySem PySem.Spec PyProof.Rows L2

/-- an own class of errors without a body -/
structure ExK (Γ : Wd) (x : Str) (C : Addr) : Prop where
  g : Γ.mg x = some (.ref C)
  ex : PySem.W.excIn Γ.K C [.type "ValueError", .type "Exception", .type "BaseException", .type "object"] "ValueError.__new__" = true
  kp : PySem.W.keepIn Γ.K (.ref C) = true
  sub : PySem.W.subIn Γ.K (.ref C) (.type "BaseException") = some true
  ty : PySem.W.typeIn Γ.K (.ref C) = some (.type "type")

section
variable {Γ : Wd} {X : Cx} {B : Bs} {e a b c o tg it elt : Expr} {es ifs tgs : List Expr} {st : Stmt} {sts body suite : List Stmt} {ρ ρ' : List Sl} {S : Sto} {N : List Str} {nm : List (Str × NameKind)} {k j : Nat} {E : EK} {pos pos' p p2 np apos cpos px pl : Pos}
variable {F H F' H' : Hp} {S' : Sto} {σ : L2.St} {d : D} {Q : D → Sto → Prop} {QB : Bool → Sto → Prop} {QA : List D → Sto → Prop} {Dd : Dn} {x m n : Str} {Φ : FnS} {i : Nat} {f : Sl → List Sl} {xs : List D}

/-- raise X('..') -/
theorem sRaise {C : Addr} {w : Str} {jj : Nat} (G : Gd Γ X N nm k B E) (h : ExK Γ x C) (hg : Kd nm x .globalImplicit) (q : E C ρ S) (hdb : (x == ("__debug__" : Str)) = false := by decide) :
    wS Γ X B (.Raise (some (.Call (.Name x p) [.Constant (.str w) jj p2] [] apos)) none pos) ρ S Dd := .mk fun F H σ c => by
  refine (ps_raise G.calm G.tk (pmk_own PySem.F.excBase_ValueError (by rw [G.hK]; exact h.ex) (by rw [G.hm]; exact h.g) (by rw [G.hK]; exact h.kp) (raises_own (by rw [G.hK]; exact h.sub) (by rw [G.hK]; exact h.ty)) (G.gl (hg.lk G.uq)) hdb)).tw ?_
  exact ⟨C, ρ, S, F, rfl, rfl, c.1, c.2.1, c.2.2, q⟩

/-- an untracked object that is younger than the def's entry is tracked from now on -/
theorem Inv.track {X : Cx} {pins : List (Addr × Obj)} {σ : L2.St} {H : Hp} {s : Shared} {a : Addr} {ob : Obj} {o : HO} (I : Inv X pins σ H s) (ha : s.heap.get? a = some ob) (hn : H a = none) (h0 : X.s_0.heap.get? a = none) (hL : a ≠ X.env.locals) (hd : ∃ vs, ob.data = .fields vs)
    (hp : ∀ q ∈ X.pn ++ pins, q.1 ≠ a) (ok : ObjOk X.prog X.w (upd H a o) s.heap a o) : Inv X pins σ (upd H a o) s := by
  have keep : ∀ b u, H b = some u → upd H a o b = some u := fun b u e => by rw [upd_ne (ne_of_none e hn)]; exact e
  obtain ⟨vs, hd⟩ := hd
  refine ⟨I.ok, I.os, I.bare, ⟨fun b u e n hb hx => I.base.keep b u e n hb hx, fun b u e n hb hx => I.base.slot b u e n hb hx, fun b u e n hx => ?_, I.base.there, fun b us e => keep _ _ (I.base.tups b us e), fun b u us e => keep _ _ (I.base.frzs b u us e), fun b us e => ?_⟩,
    I.loc, I.cell, ?_, fun y c e => ?_, fun q hq => ?_, fun b u e => ?_, I.len⟩
  · have ne : b ≠ a := fun z => by
      rw [z, h0] at e
      cases e
    rw [upd_ne ne]
    exact I.base.free b u e n hx
  · obtain ⟨more, z⟩ := I.base.tbls b us e
    exact ⟨more, keep _ _ z⟩
  · rw [upd_ne hL.symm]
    exact I.free
  · have ne : c ≠ a := fun z => by
      obtain ⟨v, u, hu, hcl⟩ := I.cell y c e
      rw [z, ha] at hu
      rw [← Option.some.inj hu, hd] at hcl
      cases hcl
    rw [upd_ne ne]
    exact I.freeC y c e
  · obtain ⟨z1, z2, z3⟩ := I.pin q hq
    exact ⟨z1, by rw [upd_ne (hp q hq)]; exact z2, z3⟩
  · by_cases z : b = a
    · subst z
      rw [upd_same] at e
      rw [← Option.some.inj e]
      exact ok
    · rw [upd_ne z] at e
      exact (I.hok b u e).stay (fun c v _ q => q) (fun c q => keep _ _ q) fun c us q => keep _ _ q
theorem hx_ok {P : Program} {w : World} {h : Heap} {C a : Addr} {oe : Obj} {vs : Array Value} (e : h.get? a = some oe) (z : Zc (.ref C) none oe) (d : oe.data = .fields vs) : ObjOk P w H h a (HX C a) :=
  ⟨⟨oe, vs, e, z.1, z.2, d⟩, ⟨oe, e⟩, fun h1 h2 ⟨oe', vs', e1, z1, z2, d1⟩ k => ⟨oe', vs', k _ e1, z1, z2, d1⟩⟩
/-- what the clause «except x as n: y = n» wishes of an exception of the body (i: n's slot, j: y's) -/
def wHeld (K : PySem.W.Frag) (c : Value) (i j : Nat) (Wout : WX) (D : Ends) : WX := fun cls d σ H =>
  ∃ b, PySem.W.exmOne K cls c = some b ∧ (b = true → d = none ∧ ∃ C, cls = .ref C ∧ ∀ a, H a = none → D.nx (((σ.set i (some (.ref a))).set j (some (.ref a))).set i none) (upd H a (HX C a))) ∧ (b = false → Wout cls d σ H)
theorem ps_try_held {c : Value} {y : Str} {tb : WX → TS} {Wout : WX} {py pn ps : Pos} (hs : X.stack = X.env :: X.outer) (hf : X.env.frame = some X.env.locals) (hN : X.N.Nodup) (hi : X.N[i]? = some n) (hln : X.env.kindOf n = some .local) (hj : X.N[j]? = some y) (hly : X.env.kindOf y = some .local) (hex : X.ex = [])
    (hc : Names X x c) (tk : Takes X Wout) (hdn : (n == ("__debug__" : Str)) = false) (hcn : (n == ("__classdict__" : Str)) = false)
    (hb : ∀ (W : WX) (pn : List (Addr × Obj)) (xe : Value → Shared → Prop), Takes (X.tr pn xe) W → PassesOwn (model X.prog X.w) X.A X.env xe → PSs (X.tr pn xe) body (tb W)) :
    PS X (.Try body [.ExceptHandler (some (.Name x np)) (some n) [.Assign [.Name y py] (.Name n pn) ps] pos'] [] [] pos) (fun D σ H => tb (wHeld X.K c i j Wout D) D σ H) := by
  refine ⟨fun pins s σ H D I h => ?_⟩
  have ok := I.ok
  have hfr : X.A.frames = some (X.env :: X.outer) := by rw [ok.frames, hs]
  refine wpAny_Try_except (wpAny_mono ((hb (wHeld X.K c i j Wout D) (X.pn ++ pins) (fun e s₁ => wpAny (model X.prog X.w) X.A (noteFrame e X.env) (fun _ s₂ => wpAny (model X.prog X.w) X.A (setFlight e none) (fun _ s₃ =>
    wpAny (model X.prog X.w) X.A (handleBy e X.env [.ExceptHandler (some (.Name x np)) (some n) [.Assign [.Name y py] (.Name n pn) ps] pos']) (SP X pins D) X.xe s₃) X.xe s₂) X.xe s₁) (fun u s' xx => ?_) PassesOwn.looking).run [] s σ H D (I.toTry _) h) (fun fl s1 hsp => ?_) (fun e s1 he => he))
  · obtain ⟨a, Gr, sI, pins', σ', H', cls, dd, rfl, J', nb, up, sky, na, os, ag, b, hb1, hyes, hno⟩ := xx
    have J : Inv X pins σ' H' sI := J'.ofTry ok
    rw [show (X.tr (X.pn ++ pins) _).stack = X.env :: X.outer from hs] at sky
    show wpAny (model X.prog X.w) X.A (noteFrame (.ref a) X.env) _ _ _
    refine Sky.land Zc.steady hfr hf sky fun h3 fl3 up3 => ?_
    have J3 : Inv X pins σ' H' { s' with heap := h3 } := J.landed nb fl3.1 (up.trans up3) os ag
    obtain ⟨o3, v3, he3, hz3, hd3⟩ := fl3.there
    have nfr : a ∉ frs (X.env :: X.outer) := fun hm => by
      obtain ⟨_, o', e', hnf⟩ := fl3.2.2.1.mem hm
      rw [he3] at e'
      cases e'
      exact hnf _ hd3
    have nL : a ≠ X.env.locals := fun z => nfr (List.mem_filterMap.mpr ⟨X.env, List.mem_cons_self, by rw [hf, z]⟩)
    have nF : a ∉ X.fs := fun hm => by
      obtain ⟨e, he, q⟩ := List.mem_filterMap.mp hm
      exact nfr (List.mem_filterMap.mpr ⟨e, List.mem_cons_of_mem _ he, q⟩)
    -- younger than the entry, and than every pin
    have nS : a ∉ frs X.stack := by rw [hs]; exact nfr
    have n0 : X.s_0.heap.get? a = none := by
      cases q : X.s_0.heap.get? a with
      | none => rfl
      | some u =>
        obtain ⟨o', e'⟩ := J.base.there a u q (by rw [hex]; simp)
        have z := nb a o' e' nS
        rw [fl3.2.1] at z
        cases z
    have nP : ∀ q ∈ X.pn ++ pins, q.1 ≠ a := fun q hq z => by
      obtain ⟨e1, _, _, e4, _⟩ := J.pin q hq
      rw [z] at e1
      have z2 := nb a q.2 e1 nS
      rw [fl3.2.1] at z2
      cases z2
    have S3 := J3.suite he3 hd3 na nL nF
    refine wpAny_handleBy_cons (codeAny_handlers_test ?_) (by intro q; cases q)
    have LT : PySem.W.Looks (model X.prog X.w) h3 (typeOf (.ref a)) cls := fun A Q E s k q => wpAny_typeOf_ref (k _ _ he3) (by rw [hz3.1]; exact q)
    have LM := PySem.W.exm_one (M := model X.prog X.w) J3.kIn LT hb1
    have test : ∀ {Q : Value → Shared → Prop} {E : Value → Shared → Prop}, Q c { s' with heap := h3 } → wpAny (model X.prog X.w) (X.A.mark (some (.ref a))) (eval (.Name x np) X.env) Q E { s' with heap := h3 } := fun {Q E} q => by
      obtain ⟨hg, hdbg, hm | ⟨hm, hv, hnn⟩⟩ := hc
      · exact ld_glob (X := X.suite a ((a, o3) :: (X.pn ++ pins))) S3 hg hm q hdbg
      · exact ld_blt (X := X.suite a ((a, o3) :: (X.pn ++ pins))) S3 hg hm hv q hnn hdbg
    refine test (LM.here ?_)
    cases b with
    | true =>
      obtain ⟨ed, C, ec, hy2⟩ := hyes rfl
      subst ed ec
      refine codeAny_handlers_suite_as (HandSPX.lands_againZ fl3 fun h4 fl4 up4 => ?_)
      have J4 : Inv X pins σ' H' { s' with heap := h4 } := J.landed nb fl4.1 ((up.trans up3).trans up4) os ag
      obtain ⟨o4, v4, he4, hz4, hd4⟩ := fl4.there
      have S4 := J4.suite he4 hd4 na nL nF
      refine store_ok (X := X.suite a ((a, o4) :: (X.pn ++ pins))) (v := .ref a) S4 hN hi (.inl hln) rfl (fun s5 S5 => ?_) (.inr hln)
      have run : PSs (X.suite a ((a, o4) :: (X.pn ++ pins))) [.Assign [.Name y py] (.Name n pn) ps] (tAsg (tVar i) (gName j)) :=
        pss_one (ps_set (X := X.suite a ((a, o4) :: (X.pn ++ pins))) (i := j) hN hj (.inl hly) (pe_var (X := X.suite a ((a, o4) :: (X.pn ++ pins))) hi (.inl hln) hdn hcn) rfl (.inr hly))
      have hlen : i < σ'.length := by
        rw [J.len]
        exact (List.getElem?_eq_some_iff.mp hi).1
      refine wpAny_mono (run.run [] s5 _ H' { nx := fun σ6 H6 => σ6 = (σ'.set i (some (.ref a))).set j (some (.ref a)) ∧ H6 = H', rt := fun _ _ => False } S5 ⟨.ref a, List.getElem?_set_self hlen, rfl, rfl⟩) (fun fl s6 hsp => ?_) (fun _ _ z => False.elim z)
      cases fl with
      | next =>
        obtain ⟨σ6, H6, S6, e6, e7⟩ := hsp
        subst e6 e7
        refine gone_ok (X := X.suite a ((a, o4) :: (X.pn ++ pins))) S6 hN hi hln fun s7 S7 => ?_
        have ha7 := (S7.pin (a, o4) (by simp)).1
        have J7 : Inv X pins (((σ'.set i (some (.ref a))).set j (some (.ref a))).set i none) H6 s7 := S7.unsuite ok
        exact ⟨_, _, Inv.track J7 ha7 na n0 nL ⟨_, hd4⟩ nP (hx_ok ha7 hz4 hd4), hy2 a na⟩
      | brk => obtain ⟨_, _, _, q⟩ := hsp; exact q.elim
      | cont => obtain ⟨_, _, _, q⟩ := hsp; exact q.elim
      | ret u => obtain ⟨_, _, _, _, _, q⟩ := hsp; exact q.elim
    | false =>
      show wpAny _ X.A (handleBy (.ref a) X.env []) _ _ _
      refine wpAny_handleBy_nil ?_
      obtain ⟨k1, k2, k3, oe, vs, T, oT, ts', he, hz, hd, h1, hr⟩ := id fl3
      unfold PySem.passOn
      refine wpAny_bind (wpAny_field he hd h1 ?_)
      rw [if_neg (show ¬ ((Value.ref T == Value.none) = true) from by simp)]
      have fin : wpAny (model X.prog X.w) X.A (setFlight (.ref a) X.env.frame) (fun _ s4 => wpAny (model X.prog X.w) X.A (throw (.ref a) : Sem Flow) (SP X pins D) X.xe s4) X.xe { s' with heap := h3 } := by
        rw [hf]
        refine HandSPX.setFlight_upZ fl3 fun h4 hh4 up4 => wpAny_throw (tk _ _ ?_)
        exact ⟨a, Gr, sI, pins, σ', H', cls, dd, rfl, J, nb, (up.trans up3).trans up4, .inr (.inr (by rw [hs]; exact hh4)), na, os, ag, hno rfl⟩
      first
        | exact wpAny_bind (wpAny_pure (wpAny_bind fin))
        | exact wpAny_bind fin
  · cases fl with
    | next =>
      obtain ⟨σ', H', J', q⟩ := hsp
      exact wpAny_execs_nil ⟨σ', H', J'.ofTry ok, q⟩
    | brk =>
      obtain ⟨σ', H', J', q⟩ := hsp
      exact ⟨σ', H', J'.ofTry ok, q⟩
    | cont =>
      obtain ⟨σ', H', J', q⟩ := hsp
      exact ⟨σ', H', J'.ofTry ok, q⟩
    | ret u =>
      obtain ⟨v, σ', H', J', r, q⟩ := hsp
      exact ⟨v, σ', H', J'.ofTry ok, r, q⟩
/-- a new object comes into the store -/
theorem Ab.g_take {K : PySem.W.Frag} {S : Sto} {F H : Hp} {q : Addr} {o : HO} {u : Ob} (A : Ab K S F H) (h : H q = none) : Grow S F H (put S q u) F (upd H q o) where
  ex := ex_r F
  fr := fun a z e _ => by rw [upd_ne (ne_of_none e h)]; exact e
  nf := fun a z e n => n
  ns := fun a z e n => by rw [put_ne (ne_of_none e h)]; exact n
  th := fun a z e => ⟨z, by rw [upd_ne (ne_of_none e h)]; exact e⟩
/-- the base with the frozen heap of now -/
theorem Grow.reb {B : Bs} (g : Grow B.S B.F B.H S F H) : Grow B.S B.F B.H B.S F B.H := ⟨g.ex, fun _ _ e _ => e, g.nf, fun _ _ _ n => n, fun _ o e => ⟨o, e⟩⟩
theorem Cf.reb {B : Bs} (c : Cf Γ B F H σ ρ S) : Cf Γ ⟨B.S, F, B.H⟩ F H σ ρ S := ⟨c.1, c.2.1, ⟨ex_r F, c.2.2.fr, fun _ _ _ n => n, c.2.2.ns, c.2.2.th⟩⟩
theorem Cf.unreb {B : Bs} {F0 : Hp} (g : Grow B.S B.F B.H B.S F0 B.H) (c : Cf Γ ⟨B.S, F0, B.H⟩ F H σ ρ S) : Cf Γ B F H σ ρ S := ⟨c.1, c.2.1, g.trans c.2.2⟩
theorem lift_reb {B : Bs} {F0 : Hp} (g : Grow B.S B.F B.H B.S F0 B.H) : EndsLe (lift Γ ⟨B.S, F0, B.H⟩ F Dd) (lift Γ B F Dd) :=
  ⟨fun _ _ ⟨ρ, S, F1, c, e1, q⟩ => ⟨ρ, S, F1, c.unreb g, e1, q⟩, fun _ _ ⟨d, S, F1, A, g1, r, q⟩ => ⟨d, S, F1, A, g.trans g1, r, q⟩, fun _ _ ⟨ρ, S, F1, c, e1, q⟩ => ⟨ρ, S, F1, c.unreb g, e1, q⟩, fun _ _ ⟨ρ, S, F1, c, e1, q⟩ => ⟨ρ, S, F1, c.unreb g, e1, q⟩⟩
/-- try: body / except x as n: y = n -/
theorem sTry {CE : Addr} {y : Str} {py pn ps : Pos} {fn fy fn2 : Sl → List Sl} (G : Gs Γ X N nm k B E) (hm : Γ.mg x = some (.ref CE)) (hg : Kd nm x .globalImplicit) (hn : Kd nm n .local) (hy : Kd nm y .local) {i j : Nat} (hi : N[i]? = some n) (hj : N[j]? = some y)
    (h : ∀ X' B', Gs Γ X' N nm k B' (fun C ρ' S' => PySem.W.exmOne Γ.K (.ref C) (.ref CE) = some true ∧ ∀ a, S' a = none → Dd.nx (((ρ'.set i (.val (.ref a))).set j (.val (.ref a))).set i .no) (put S' a (.exc C))) → wSs Γ X' B' body ρ S Dd)
    (hdb : (x == ("__debug__" : Str)) = false := by decide) (hdn : (n == ("__debug__" : Str)) = false := by decide) (hcn : (n == ("__classdict__" : Str)) = false := by decide) :
    wS Γ X B (.Try body [.ExceptHandler (some (.Name x np)) (some n) [.Assign [.Name y py] (.Name n pn) ps] pos'] [] [] pos) ρ S Dd := .mk fun F H σ c => by
  have loc : ∀ {z : Str}, Kd nm z .local → X.env.kindOf z = some .local := fun hz => by unfold Env.kindOf; rw [G.g.hn]; exact hz.lk G.g.uq
  refine (ps_try_held (c := .ref CE) (Wout := fun _ _ _ _ => False) (tb := fun W D σ H => ∀ pn xe, Takes (X.tr pn xe) W → PassesOwn (model X.prog X.w) X.A X.env xe → tssW (X.tr pn xe) body D σ H) G.stk G.frm (by rw [G.g.hN]; exact G.g.nd) (by rw [G.g.hN]; exact hi) (loc hn) (by rw [G.g.hN]; exact hj) (loc hy) G.hex
    ⟨G.g.gl (hg.lk G.g.uq), hdb, .inl (by rw [G.g.hm]; exact hm)⟩ takes0 hdn hcn fun W pn xe tk pass => ⟨fun pins s σ H D I h => h pn xe tk pass pins s I⟩).tw fun pn xe tk pass => ?_
  have gB := c.2.2.reb
  have G' : Gs Γ (X.tr pn xe) N nm k ⟨B.S, F, B.H⟩ (fun C ρ' S' => PySem.W.exmOne Γ.K (.ref C) (.ref CE) = some true ∧ ∀ a, S' a = none → Dd.nx (((ρ'.set i (.val (.ref a))).set j (.val (.ref a))).set i .no) (put S' a (.exc C))) := by
    refine ⟨⟨G.g.hP, G.g.hw, G.g.hK, G.g.hm, G.g.hb, G.g.hN, G.g.nd, G.g.hn, G.g.uq, G.g.room, G.g.calm, G.g.kind, pass, tk.imp fun cls dd σ' H' ⟨C, ρ', S', F', e1, e2, A', er, g', q1, q2⟩ => ?_⟩, G.fn, G.stk, G.frm, G.hex⟩
    subst e1 e2
    refine ⟨true, by rw [G.g.hK]; exact q1, fun _ => ⟨rfl, C, rfl, fun a ha => ?_⟩, fun z => Bool.noConfusion z⟩
    have A2 := (A'.loose (o := HX C a) ha).take (u := .exc C) upd_same (A'.fnone ha)
    have g2 : Grow S' F' H' (put S' a (.exc C)) F' (upd H' a (HX C a)) := A'.g_take ha
    refine ⟨_, put S' a (.exc C), F', ⟨A2, ?_, (gB.trans g').trans g2⟩, g'.ex, q2 a (A'.snone ha)⟩
    exact (((er.grow g2).set i (.ref a)).set j (.ref a)).forget i none
  exact ((h (X.tr pn xe) ⟨B.S, F, B.H⟩ G').run F H σ c.reb).mono (lift_reb gB)
end
end CR

end

section
namespace CR
open PySem PySem.Spec PyProof.Rows L2

mutual
def pyD : D → PyData
  | .bl b => .bool b
  | .int i => .int i
  | .str s => .str ⟨s.toArray⟩
  | .lst xs => .list (pyDs xs)
  | .tup xs => .tuple (pyDs xs)
  | _ => .none
def pyDs : List D → List PyData
  | [] => []
  | x :: xs => pyD x :: pyDs xs
end
/-- data of that depth, without addresses, texts of plain signs -/
inductive Pu : Nat → D → Prop
  | non {n : Nat} : Pu n .non
  | bl {n : Nat} (b : Bool) : Pu n (.bl b)
  | int {n : Nat} (i : Int) : Pu n (.int i)
  | str {n : Nat} {s : List Nat} (h : ∀ c ∈ s, c < 128) : Pu n (.str s)
  | lst {n : Nat} {xs : List D} (h : ∀ x ∈ xs, Pu n x) : Pu (n + 1) (.lst xs)
  | tup {n : Nat} {xs : List D} (h : ∀ x ∈ xs, Pu n x) : Pu (n + 1) (.tup xs)
theorem strOk_of {s : List Nat} (h : ∀ c ∈ s, c < 128) : PyData.strOk ⟨s.toArray⟩ = true := by
  unfold PyData.strOk
  rw [Array.all_eq_true']
  intro c hc
  have := h c (by simpa using hc)
  exact decide_eq_true (by omega)
mutual
theorem Pu.lay : ∀ {n : Nat} {d : D}, Pu n d → (pyD d).canLay0 = true
  | _, _, .non => rfl
  | _, _, .bl _ => rfl
  | _, _, .int _ => rfl
  | _, .str s, .str h => strOk_of h
  | _, .lst xs, .lst h => Pu.lays h
  | _, .tup xs, .tup h => Pu.lays h
theorem Pu.lays : ∀ {n : Nat} {ds : List D}, (∀ x ∈ ds, Pu n x) → PyData.canLayAll0 (pyDs ds) = true
  | _, [], _ => rfl
  | _, x :: xs, h => by
    show ((pyD x).canLay0 && PyData.canLayAll0 (pyDs xs)) = true
    rw [Pu.lay (h x List.mem_cons_self), Pu.lays fun y hy => h y (List.mem_cons_of_mem _ hy)]
    rfl
end
mutual
theorem Pu.dep : ∀ {n : Nat} {d : D}, Pu n d → (pyD d).depth ≤ n
  | _, _, .non => Nat.zero_le _
  | _, _, .bl _ => Nat.zero_le _
  | _, _, .int _ => Nat.zero_le _
  | _, .str s, .str h => Nat.zero_le _
  | _, .lst xs, .lst h => Nat.succ_le_succ (Pu.deps h)
  | _, .tup xs, .tup h => Nat.succ_le_succ (Pu.deps h)
theorem Pu.deps : ∀ {n : Nat} {ds : List D}, (∀ x ∈ ds, Pu n x) → PyData.depthAll (pyDs ds) ≤ n
  | _, [], _ => Nat.zero_le _
  | _, x :: xs, h => Nat.max_le.mpr ⟨Pu.dep (h x List.mem_cons_self), Pu.deps fun y hy => h y (List.mem_cons_of_mem _ hy)⟩
end
theorem Pu.shaped {n : Nat} {d : D} (h : Pu n d) (hn : n ≤ 60) : SeqAt.shaped (pyD d) = true := by
  unfold SeqAt.shaped
  rw [h.lay, decide_eq_true (Nat.le_trans h.dep (by omega))]
  rfl
mutual
theorem Pu.dp {K : PySem.W.Frag} {F H : Hp} (e : Ex F H) : ∀ {n : Nat} {d : D} {v : V}, Pu n d → Rep K F v d → Dp K H v (pyD d)
  | _, _, _, .non, .non => .non
  | _, _, _, .bl _, .bl b => .bl b
  | _, _, _, .int _, .int i => .int i
  | _, .str s, _, .str h, .str _ => .str _
  | _, .lst xs, _, .lst h, .lst h1 r => .lst (SqL.of (e _ _ h1)) (Pu.dps e h r)
  | _, .tup xs, _, .tup h, .tup h1 r => .tup (ex_sqt e h1) (Pu.dps e h r)
theorem Pu.dps {K : PySem.W.Frag} {F H : Hp} (e : Ex F H) : ∀ {n : Nat} {ds : List D} {vs : List V}, (∀ x ∈ ds, Pu n x) → RepL K F vs ds → DpAll K H vs (pyDs ds)
  | _, [], _, _, .nil => .nil
  | _, x :: xs, _, h, .cons r rr => .cons (Pu.dp e (h x List.mem_cons_self) r) (Pu.dps e (fun y hy => h y (List.mem_cons_of_mem _ hy)) rr)
end

section
variable {Γ : Wd} {X : Cx} {B : Bs} {e a b c o tg it elt : Expr} {es ifs tgs : List Expr} {ρ ρ' : List Sl} {S : Sto} {N : List Str} {nm : List (Str × NameKind)} {k j : Nat} {E : EK} {pos p apos cpos : Pos}
variable {F H F' H' : Hp} {S' : Sto} {σ : L2.St} {d : D} {Q : D → Sto → Prop} {QB : Bool → Sto → Prop} {x m n : Str}
theorem eqDat {u v : D} {n1 n2 : Nat} (G : Gd Γ X N nm k B E) (h1 : Pu n1 u) (h2 : Pu n2 v) (l1 : n1 ≤ 60) (l2 : n2 ≤ 60) : CmpR Γ X .Eq u v (PyData.eqv (pyD u) (pyD v)) := ⟨_, op_eqD G.room.units, fun S F H x y Qv A rx ry q => by
  rw [G.hK]
  exact ⟨_, _, h1.dp A.ex rx, h2.dp A.ex ry, h1.shaped l1, h2.shaped l2, q _ F H A (Grow.refl S F H) (.bl _)⟩⟩
theorem neDat {u v : D} {n1 n2 : Nat} (G : Gd Γ X N nm k B E) (h1 : Pu n1 u) (h2 : Pu n2 v) (l1 : n1 ≤ 60) (l2 : n2 ≤ 60) : CmpR Γ X .NotEq u v (!PyData.eqv (pyD u) (pyD v)) := ⟨_, op_neD G.room.units, fun S F H x y Qv A rx ry q => by
  rw [G.hK]
  exact ⟨_, _, h1.dp A.ex rx, h2.dp A.ex ry, h1.shaped l1, h2.shaped l2, q _ F H A (Grow.refl S F H) (.bl _)⟩⟩
/-- the same datum on both sides -/
theorem eqRef {u v : D} {n1 : Nat} (G : Gd Γ X N nm k B E) (h : u = v) (h1 : Pu n1 u) (l1 : n1 ≤ 60) : CmpR Γ X .Eq u v true := by
  subst h
  have z := eqDat G h1 h1 l1 l1
  rwa [SeqAt.eqv_refl _ h1.lay] at z
theorem neRef {u v : D} {n1 : Nat} (G : Gd Γ X N nm k B E) (h : u = v) (h1 : Pu n1 u) (l1 : n1 ≤ 60) : CmpR Γ X .NotEq u v false := by
  subst h
  have z := neDat G h1 h1 l1 l1
  rwa [SeqAt.eqv_refl _ h1.lay] at z

def flD : D → Bool
  | .non => true
  | .bl _ => true
  | .int _ => true
  | .str _ => true
  | _ => false
def eqF : D → D → Bool
  | .non, .non => true
  | .bl a, .bl b => a == b
  | .bl a, .int b => (if a then 1 else 0) == b
  | .int a, .bl b => a == (if b then 1 else 0)
  | .int a, .int b => a == b
  | .str a, .str b => decide (a = b)
  | _, _ => false
theorem flD_v {K : PySem.W.Frag} {v : V} {d : D} (r : Rep K F v d) (h : flD d = true) : flatV v = true := by
  cases r <;> first | rfl | cases h
theorem str_beq {s t : List Nat} : ((⟨s.toArray⟩ : Str) == ⟨t.toArray⟩) = decide (s = t) := by
  by_cases h : s = t
  · subst h
    simp
  · rw [decide_eq_false h]
    refine beq_eq_false_iff_ne.mpr fun z => h ?_
    injection z with z
    exact List.toArray_inj z
theorem eqF_v {K : PySem.W.Frag} {v u : V} {d e : D} (r : Rep K F v d) (r2 : Rep K F u e) : eqV v u = eqF d e := by
  cases r <;> cases r2 <;> first | rfl | exact str_beq
theorem flDs {K : PySem.W.Frag} : ∀ {vs : List V} {ds : List D}, RepL K F vs ds → ds.all flD = true → vs.all flatV = true
  | _, _, .nil, _ => rfl
  | _, _, .cons h r, hh => by
    rw [List.all_cons, Bool.and_eq_true] at hh ⊢
    exact ⟨flD_v h hh.1, flDs r hh.2⟩
theorem inV_d {K : PySem.W.Frag} {x : V} {e : D} (rx : Rep K F x e) : ∀ {vs : List V} {ds : List D}, RepL K F vs ds → inV x vs = ds.any fun y => eqF y e
  | _, _, .nil => rfl
  | _, _, .cons h r => by
    show (eqV _ x || inV x _) = (eqF _ e || _)
    rw [eqF_v h rx, inV_d rx r]
theorem inT {u : D} {xs : List D} (G : Gd Γ X N nm k B E) (h : flD u = true) (h1 : xs.all flD = true) : CmpR Γ X .In u (.tup xs) (xs.any fun y => eqF y u) := ⟨_, op_in_seq, fun S F H x y Qv A rx ry q => by
  cases ry with
  | tup h2 r2 =>
    refine ⟨_, _, rfl, .inr (by rw [G.hK]; exact ex_sqt A.ex h2), flD_v rx h, flDs r2 h1, ?_⟩
    rw [inV_d rx r2]
    exact q _ F H A (Grow.refl S F H) (.bl _)⟩
theorem inL {u : D} {xs : List D} (G : Gd Γ X N nm k B E) (h : flD u = true) (h1 : xs.all flD = true) : CmpR Γ X .In u (.lst xs) (xs.any fun y => eqF y u) := ⟨_, op_in_seq, fun S F H x y Qv A rx ry q => by
  cases ry with
  | lst h2 r2 =>
    refine ⟨_, _, rfl, .inl (SqL.of (A.ex _ _ h2)), flD_v rx h, flDs r2 h1, ?_⟩
    rw [inV_d rx r2]
    exact q _ F H A (Grow.refl S F H) (.bl _)⟩
theorem niT {u : D} {xs : List D} (G : Gd Γ X N nm k B E) (h : flD u = true) (h1 : xs.all flD = true) : CmpR Γ X .NotIn u (.tup xs) (!xs.any fun y => eqF y u) := ⟨_, op_notIn_seq, fun S F H x y Qv A rx ry q => by
  cases ry with
  | tup h2 r2 =>
    refine ⟨_, _, rfl, .inr (by rw [G.hK]; exact ex_sqt A.ex h2), flD_v rx h, flDs r2 h1, ?_⟩
    rw [inV_d rx r2]
    exact q _ F H A (Grow.refl S F H) (.bl _)⟩

def rCountF (K : PySem.W.Frag) : V → List V → Hp → VK → Prop := fun x xs H Q => ∃ (p : Addr) (ys : List V) (y : V), x = .ref p ∧ xs = [y] ∧ SqL K H p ys ∧ flatV y = true ∧ ys.all flatV = true ∧ Q (.int (ys.countP fun z => eqV z y : Nat)) H
theorem countP_vals {y : V} : ∀ {ys : List V} {us : List Value}, Vals ys us → ys.all flatV = true → us.countP (eqU y) = ys.countP fun z => eqV z y
  | _, _, .nil, _ => rfl
  | z :: ys, u :: us, .cons r t, f => by
    rw [List.all_cons, Bool.and_eq_true] at f
    rw [List.countP_cons, List.countP_cons, countP_vals t f.2, eqU_of r f.1]
theorem mt_countF : MtR X "list.count" (rCountF X.K) := by
  intro pins s σ H x xs v us Q I rx rxs h
  obtain ⟨p, ys, y, rfl, rfl, hs, fy, fys, q⟩ := h
  cases rx
  obtain ⟨u, rfl, ru⟩ := rxs.one
  obtain ⟨its, rv, ⟨⟨cls, dd, data, sl⟩, n, ho, hc, hdn, hd⟩, hlen⟩ := I.list hs
  simp only at hc hd
  subst hc hd
  refine call_meets PySem.F.slot_list_count ⟨_, ho, rfl⟩ PySem.F.entry_list_count (PySem.F.args_list_count_2 _ _)
    (SeqAt.list_countAt p its.toArray n dd sl u (eqU y)) ⟨ho, fun w hw => mem_eqAt ru fy rv fys w (by simpa using hw), ?_⟩
  have ec : its.toArray.toList.countP (eqU y) = ys.countP fun z => eqV z y := countP_vals rv fys
  refine ⟨.int (ys.countP fun z => eqV z y : Nat), H, I.tok _, ⟨s.toks, ?_⟩, q⟩
  show Value.int ((its.toArray.toList.countP (eqU y) : Nat) : Int) s.toks = Value.int ((ys.countP fun z => eqV z y : Nat) : Int) s.toks
  rw [ec]
theorem countP_d {K : PySem.W.Frag} {x : V} {e : D} (rx : Rep K F x e) : ∀ {vs : List V} {ds : List D}, RepL K F vs ds → vs.countP (fun z => eqV z x) = ds.countP fun y => eqF y e
  | _, _, .nil => rfl
  | _, _, .cons h r => by
    rw [List.countP_cons, List.countP_cons, countP_d rx r, eqF_v h rx]
theorem m_count : MtId "count" "list" "list.count" := ⟨PySem.F.plainAttrs_list, PySem.F.slot_list_count, PySem.F.type_list_count⟩
theorem m_index : MtId "index" "list" "list.index" := ⟨PySem.F.plainAttrs_list, PySem.F.slot_list_index, PySem.F.type_list_index⟩
theorem countD {u : D} {xs : List D} (G : Gd Γ X N nm k B E) (h : flD u = true) (h1 : xs.all flD = true) : MtdR Γ X "list.count" (.lst xs) [u] (.int (xs.countP fun y => eqF y u : Nat)) := ⟨_, mt_countF, fun S F H x vs Qv A rx rxs q => by
  cases rxs with
  | cons ru rr =>
    cases rr
    cases rx with
    | lst h2 r2 =>
      refine ⟨_, _, _, rfl, rfl, SqL.of (A.ex _ _ h2), flD_v ru h, flDs r2 h1, ?_⟩
      rw [countP_d ru r2]
      exact q _ F H A (Grow.refl S F H) (.int _)⟩
theorem indexD {u w : D} {xs : List D} {i : Nat} (G : Gd Γ X N nm k B E) (h : flD u = true) (h1 : xs.all flD = true) (h2 : xs[i]? = some w) (h3 : eqF w u = true) (h4 : ∀ (m : Nat) (z : D), m < i → xs[m]? = some z → eqF z u = false) :
    MtdR Γ X "list.index" (.lst xs) [u] (.int (i : Nat)) := ⟨_, mt_index, fun S F H x vs Qv A rx rxs q => by
  cases rxs with
  | cons ru rr =>
    cases rr
    cases rx with
    | lst hl r2 =>
      obtain ⟨z, hz, rz⟩ := r2.get h2
      refine ⟨_, _, _, i, z, rfl, rfl, SqL.of (A.ex _ _ hl), flD_v ru h, flDs r2 h1, hz, by rw [eqF_v rz ru]; exact h3, fun m z' hm hz' => ?_, q _ F H A (Grow.refl S F H) (.int _)⟩
      obtain ⟨y, hy, ry⟩ := r2.getV hz'
      rw [eqF_v ry ru]
      exact h4 m y hm hy⟩

/-- what isinstance answers of an instance of the class C, asked for d -/
structure IsX (Γ : Wd) (C : Addr) (d : D) (z : Bool) : Prop where
  c : ExcC Γ.K C
  ex : ∃ cv, ((∃ c, d = .ref c ∧ cv = .ref c) ∨ ∃ n, d = .ty n ∧ cv = .type n) ∧ PySem.W.kitOne Γ.K (.ref C) cv = some z
def rIsX (K : PySem.W.Frag) : List V → Hp → VK → Prop := fun xs H Q => ∃ (a C : Addr) (c : V) (cv : Value) (b : Bool), xs = [.ref a, c] ∧ H a = some (HX C a) ∧ ExcC K C ∧ (∀ u, RelV c u → u = cv) ∧ PySem.W.kitOne K (.ref C) cv = some b ∧ Q (.bl b) H
theorem call_isX : CallR X (.builtin "isinstance") (rIsX X.K) := by
  intro pins s σ H xs us Q I r h
  obtain ⟨a, C, c, cv, b, rfl, hH, ec, hcv, e, q⟩ := h
  cases r with
  | cons rx rr =>
    cases rr with
    | cons rt rr =>
      cases rr
      cases rx
      have z := hcv _ rt
      subst z
      obtain ⟨⟨oe, vs, hget, hc, hd, hv⟩, _⟩ := (show ObjOk X.prog X.w H s.heap a (HX C a) from I.hok a _ hH)
      have J : PySem.W.InstAt s.heap a oe C none := by
        obtain ⟨oc, od, oda, osl⟩ := oe
        dsimp only at hc hd hv
        subst hc hd hv
        exact ⟨hget, rfl, rfl, trivial⟩
      exact PySem.W.kia_one (PySem.W.handS_kitx_exc ec.hg ec.hk ec.hs ec.hd ec.ha ec.hn ec.ht ec.hm) I.kIn J e (fun z => nomatch z) fun tk => ⟨.bl b, H, I.kept (t' := tk) fun _ _ z => z, rfl, q⟩
/-- isinstance(x, C), x a kept exception -/
theorem eIsX (G : Gd Γ X N nm k B E) (hg : Kd nm "isinstance" .globalImplicit) (hm : Γ.mg ("isinstance" : Str) = none) (ha : wA Γ X B [a, b] ρ S fun ds S1 => ∃ aa C d z, ds = [.ref aa, d] ∧ S1 aa = some (.exc C) ∧ IsX Γ C d z ∧ Q (.bl z) S1)
    (he : starEach [a, b] X.env = (false, eval a X.env) :: starEach [b] X.env := by rfl) (hpl : (backTo pos (starEach [b] X.env)).any (·.1) = false := by rfl) : wE Γ X B (.Call (.Name "isinstance" p) [a, b] [] pos) ρ S Q := .mk fun F H σ c => by
  intro pins s I
  refine wpAny_Call_Name_kw (ld_blt I (G.gl (hg.lk G.uq)) (by rw [G.hm]; exact hm) (Bfn.boot .isinstance).1 ?_ (Bfn.boot .isinstance).2.1 (Bfn.boot .isinstance).2.2)
  refine PyProof.Rows.callWith_builtin1 (thn (ha.run F H σ c pos pins s I) fun us s1 ⟨vs, H1, I1, rv, F1, ds, S1, A1, g1, rl, aa, C, d, z, e1, e2, ix, q⟩ => ?_) he hpl
  subst e1
  cases rl with
  | cons r1 rr =>
    cases rr with
    | cons r2 rr =>
      cases rr
      cases r1
      obtain ⟨cv, hd, hk⟩ := ix.ex
      refine call_isX pins s1 σ H1 _ us _ I1 rv ⟨aa, C, _, cv, z, rfl, (A1.st aa _ e2).2, by rw [G.hK]; exact ix.c, ?_, by rw [G.hK]; exact hk, F1, _, S1, A1, g1, .bl z, q⟩
      rcases hd with ⟨c0, rfl, rfl⟩ | ⟨n0, rfl, rfl⟩
      · cases r2
        exact fun u hu => hu
      · cases r2
        exact fun u hu => hu
/-- a built-in class as a value -/
theorem eTyV (G : Gd Γ X N nm k B E) {t : String} (hg : Kd nm x .globalImplicit) (hm : Γ.mg x = none) (hv : bootBuiltins x = some (.type t)) (q : Q (.ty t) S) (hn : x ≠ "__name__" := by decide) (hdb : (x == ("__debug__" : Str)) = false := by decide) : wE Γ X B (.Name x pos) ρ S Q := .mk fun F H σ c =>
  (pe_bltn (G.gl (hg.lk G.uq)) (by rw [G.hm]; exact hm) hv (show RelV (.ty t) (.type t) from rfl) hn hdb).tw (VQ.same c.1 (.ty t) q)
/-- isinstance(x, bool) of a truth, an int .. -/
def rIsB (K : PySem.W.Frag) : List V → Hp → VK → Prop := fun xs H Q => ∃ (x c : V) (t cv : Value) (b : Bool), xs = [x, c] ∧ TyOf K H x t ∧ (∀ u, RelV c u → u = cv) ∧ PySem.W.kitOne K t cv = some b ∧ Q (.bl b) H
theorem call_isB : CallR X (.builtin "isinstance") (rIsB X.K) := by
  intro pins s σ H xs us Q I r h
  obtain ⟨x, c, t, cv, b, rfl, ty, hcv, e, q⟩ := h
  cases r with
  | cons rx rr =>
    cases rr with
    | cons rt rr =>
      cases rr
      have z := hcv _ rt
      subst z
      exact isinst_ok I rx ty e fun tk => ⟨.bl b, H, I.kept (t' := tk) fun _ _ z => z, rfl, q⟩
theorem isBool {z : Bool} (G : Gd Γ X N nm k B E) (h : PySem.W.kitOne Γ.K (.type "bool") (.type "bool") = some true) : BltR Γ X (.builtin "isinstance") [.bl z, .ty "bool"] (.bl true) := ⟨_, call_isB, fun S F H vs Qv A r q => by
  cases r with
  | cons r1 rr =>
    cases rr with
    | cons r2 rr =>
      cases rr
      cases r1
      cases r2
      exact ⟨_, _, _, _, true, rfl, .bl z, (fun u hu => hu), by rw [G.hK]; exact h, q _ F H A (Grow.refl S F H) (.bl _)⟩⟩
end
end CR

end

section
namespace CR
open PySem PySem.Spec PyProof.Rows L2

theorem splitN_join (c : Nat) : ∀ (ps : List (List Nat)), ps ≠ [] → (∀ p ∈ ps, c ∉ p) → splitN c (joinN c ps) = ps
  | [], h, _ => absurd rfl h
  | [p], hn, h => by
    show splitN c p = [p]
    have hp : c ∉ p := h p List.mem_cons_self
    clear h hn
    induction p with
    | nil => rfl
    | cons x xs ih =>
      have h1 : x ≠ c := fun z => hp (by rw [z]; exact List.mem_cons_self)
      have h2 : c ∉ xs := fun z => hp (List.mem_cons_of_mem _ z)
      unfold splitN
      rw [if_neg h1, ih h2]
  | p :: q :: r, hn, h => by
    show splitN c (p ++ c :: joinN c (q :: r)) = p :: q :: r
    have hp : c ∉ p := h p List.mem_cons_self
    have ih := splitN_join c (q :: r) (by simp) (fun x hx => h x (List.mem_cons_of_mem _ hx))
    clear h hn
    induction p with
    | nil =>
      show splitN c (c :: joinN c (q :: r)) = _
      unfold splitN
      rw [if_pos rfl, ih]
    | cons x xs ih2 =>
      have h1 : x ≠ c := fun z => hp (by rw [z]; exact List.mem_cons_self)
      have h2 : c ∉ xs := fun z => hp (List.mem_cons_of_mem _ z)
      show splitN c (x :: (xs ++ c :: joinN c (q :: r))) = _
      unfold splitN
      rw [if_neg h1, ih2 h2]
theorem join_toList (c : Nat) : ∀ ps : List Str, (Str.join ⟨#[c]⟩ ps).cps.toList = joinN c (ps.map fun p => p.cps.toList)
  | [] => rfl
  | [p] => rfl
  | p :: q :: r => by
    have ih := join_toList c (q :: r)
    show ((p ++ (⟨#[c]⟩ : Str) ++ Str.join ⟨#[c]⟩ (q :: r)) : Str).cps.toList = p.cps.toList ++ c :: joinN c ((q :: r).map fun p => p.cps.toList)
    rw [← ih]
    show ((p.cps ++ #[c]) ++ (Str.join ⟨#[c]⟩ (q :: r)).cps).toList = _
    simp
theorem split_ne (x y : Str) : Txt.split x y ≠ [] := by
  unfold Txt.split
  split
  · simp
  · split
    · simp
    · obtain ⟨p, r, h⟩ := PySem.StrLaws.partsFrom_ne x y.length 0 (Builtin.Str.occurrences x y 0 x.length (x.length + 1))
      rw [PySem.StrLaws.partsBetween_eq, h]
      simp
theorem split_eq (s : List Nat) (c : Nat) : (Txt.split ⟨s.toArray⟩ ⟨#[c]⟩).map V.str = (splitN c s).map fun p => V.str ⟨p.toArray⟩ := by
  have h1 := PySem.StrLaws.join_split ⟨s.toArray⟩ ⟨#[c]⟩
  have h2 := PySem.StrLaws.split_free ⟨s.toArray⟩ c
  have h3 := split_ne ⟨s.toArray⟩ ⟨#[c]⟩
  generalize Txt.split ⟨s.toArray⟩ ⟨#[c]⟩ = ps at h1 h2 h3
  have e : splitN c s = ps.map fun p => p.cps.toList := by
    have h4 := splitN_join c (ps.map fun p => p.cps.toList) (by simpa using h3) (by
      intro p hp
      obtain ⟨q, hq, rfl⟩ := List.mem_map.mp hp
      exact h2 q hq)
    rw [← join_toList, h1] at h4
    simpa using h4
  rw [e, List.map_map]
  apply List.map_congr_left
  intro p _
  show V.str p = V.str ⟨p.cps.toList.toArray⟩
  rw [Array.toArray_toList]

def rstripN (c : Nat) (s : List Nat) : List Nat := s.take (s.length - (s.reverse.takeWhile (· == c)).length)
def stripN (c : Nat) (s : List Nat) : List Nat := (s.drop (s.takeWhile (· == c)).length).take (s.length - ((s.drop (s.takeWhile (· == c)).length).reverse.takeWhile (· == c)).length - (s.takeWhile (· == c)).length)
theorem goes_eq (c : Nat) : (fun k => (#[c] : Array Nat).contains k) = (fun k => k == c) := by
  funext k
  by_cases h : k = c
  · subst h; simp
  · have h1 : (#[c] : Array Nat).contains k = false := by
      rw [← Bool.not_eq_true, Array.contains_iff]
      simpa using h
    rw [h1]
    exact (beq_eq_false_iff_ne.mpr h).symm
theorem rstrip_eq (s : List Nat) (c : Nat) : Txt.rstripChars ⟨s.toArray⟩ ⟨#[c]⟩ = ⟨(rstripN c s).toArray⟩ := by
  unfold Txt.rstripChars
  rw [stripBy_eq, strSub_mk]
  show (⟨_⟩ : Str) = ⟨_⟩
  congr 2
  show List.take (stripHi _ true ⟨s.toArray⟩ 0 - 0) (List.drop 0 s) = rstripN c s
  unfold stripHi rstripN
  rw [if_pos rfl, List.drop_zero, Nat.sub_zero]
  show List.take ((⟨s.toArray⟩ : Str).length - (List.takeWhile (fun k => (#[c] : Array Nat).contains k) (s.drop 0).reverse).length) s = _
  rw [goes_eq, List.drop_zero]
  simp [Str.length]
theorem strip_eq (s : List Nat) (c : Nat) : Txt.stripChars ⟨s.toArray⟩ ⟨#[c]⟩ = ⟨(stripN c s).toArray⟩ := by
  unfold Txt.stripChars
  rw [stripBy_eq, strSub_mk]
  show (⟨_⟩ : Str) = ⟨_⟩
  congr 2
  unfold stripHi stripLo stripN
  rw [if_pos rfl, if_pos rfl]
  show List.take ((⟨s.toArray⟩ : Str).length - (List.takeWhile (fun k => (#[c] : Array Nat).contains k) (s.drop (List.takeWhile (fun k => (#[c] : Array Nat).contains k) s).length).reverse).length - (List.takeWhile (fun k => (#[c] : Array Nat).contains k) s).length) (s.drop (List.takeWhile (fun k => (#[c] : Array Nat).contains k) s).length) = _
  rw [goes_eq]
  simp [Str.length]

/-- the number of signs ahead of and with the last c, or none -/
def lastN (c : Nat) (s : List Nat) : Option Nat := ((List.range s.length).filter fun i => s[i]? == some c).getLast?
theorem rfind_eq (s : List Nat) (c : Nat) : (∃ i : Nat, Txt.rfind ⟨s.toArray⟩ ⟨#[c]⟩ = (i : Int) ∧ s[i]? = some c ∧ ∀ j, i < j → s[j]? ≠ some c) ∨ (Txt.rfind ⟨s.toArray⟩ ⟨#[c]⟩ = -1 ∧ c ∉ s) := by
  unfold Txt.rfind
  rcases PySem.StrLaws.last_spec ⟨s.toArray⟩ ⟨#[c]⟩ with ⟨h, hn⟩ | ⟨i, h, hi, hl⟩
  · rw [h]
    refine .inr ⟨rfl, fun hc => ?_⟩
    obtain ⟨i, hi⟩ := List.mem_iff_getElem?.mp hc
    exact hn i ((PySem.StrLaws.subAt_one ⟨s.toArray⟩ c i).mpr (by simpa using hi))
  · rw [h]
    refine .inl ⟨i, rfl, ?_, fun j hj hc => ?_⟩
    · have := (PySem.StrLaws.subAt_one ⟨s.toArray⟩ c i).mp hi
      simpa using this
    · exact hl j hj ((PySem.StrLaws.subAt_one ⟨s.toArray⟩ c j).mpr (by simpa using hc))

section
variable {Γ : Wd} {X : Cx} {B : Bs} {N : List Str} {nm : List (Str × NameKind)} {k : Nat} {E : EK} {s t : List Nat} {c : Nat}
theorem m_split : MtId "split" "str" "str.split" := ⟨PySem.F.plainAttrs_str, PySem.F.slot_str_split, PySem.F.type_str_split⟩
theorem m_rstrip : MtId "rstrip" "str" "str.rstrip" := ⟨PySem.F.plainAttrs_str, PySem.F.slot_str_rstrip, PySem.F.type_str_rstrip⟩
theorem m_strip : MtId "strip" "str" "str.strip" := ⟨PySem.F.plainAttrs_str, PySem.F.slot_str_strip, PySem.F.type_str_strip⟩
theorem m_rfind : MtId "rfind" "str" "str.rfind" := ⟨PySem.F.plainAttrs_str, PySem.F.slot_str_rfind, PySem.F.type_str_rfind⟩
theorem m_find : MtId "find" "str" "str.find" := ⟨PySem.F.plainAttrs_str, PySem.F.slot_str_find, PySem.F.type_str_find⟩
theorem m_join : MtId "join" "str" "str.join" := ⟨PySem.F.plainAttrs_str, PySem.F.slot_str_join, PySem.F.type_str_join⟩
theorem m_isalpha : MtId "isalpha" "str" "str.isalpha" := ⟨PySem.F.plainAttrs_str, PySem.F.slot_str_isalpha, PySem.F.type_str_isalpha⟩
theorem tyStr {T : Sto} : TyD "str" (.str s) T := .inl ⟨s, rfl, rfl⟩
theorem tyLst {T : Sto} {xs : List D} : TyD "list" (.lst xs) T := .inr (.inl ⟨xs, rfl, rfl⟩)
theorem splitD (h : s.length ≤ 100000) : MtdR Γ X "str.split" (.str s) [.str [c]] (.lst ((splitN c s).map .str)) := ⟨_, mt_split, fun S F H x vs Qv A rx rxs q => by
  cases rxs with
  | cons ru rr =>
    cases rr
    cases ru
    cases rx
    refine ⟨_, _, rfl, rfl, rfl, Nat.le_trans (show _ ≤ 100000 + 2 by simpa [Str.length] using h) (by decide), fun p hp => ?_⟩
    have e : (Txt.split ⟨s.toArray⟩ ⟨[c].toArray⟩).map V.str = (splitN c s).map fun p => V.str ⟨p.toArray⟩ := split_eq s c
    rw [e]
    exact q _ _ _ (A.frozen hp) (A.g_frozen hp) (.lst upd_same (RepL.of_strs _))⟩
theorem rstripD (h : s.length ≤ 100000) : MtdR Γ X "str.rstrip" (.str s) [.str [c]] (.str (rstripN c s)) := ⟨_, mt_rstripChars, fun S F H x vs Qv A rx rxs q => by
  cases rxs with
  | cons ru rr =>
    cases rr
    cases ru
    cases rx
    refine ⟨_, _, rfl, rfl, sz_le (by simpa [Str.length] using h), ?_⟩
    rw [show Txt.rstripChars ⟨s.toArray⟩ ⟨[c].toArray⟩ = ⟨(rstripN c s).toArray⟩ from rstrip_eq s c]
    exact q _ F H A (Grow.refl S F H) (.str _)⟩
theorem stripD (h : s.length ≤ 100000) : MtdR Γ X "str.strip" (.str s) [.str [c]] (.str (stripN c s)) := ⟨_, mt_stripChars, fun S F H x vs Qv A rx rxs q => by
  cases rxs with
  | cons ru rr =>
    cases rr
    cases ru
    cases rx
    refine ⟨_, _, rfl, rfl, sz_le (by simpa [Str.length] using h), ?_⟩
    rw [show Txt.stripChars ⟨s.toArray⟩ ⟨[c].toArray⟩ = ⟨(stripN c s).toArray⟩ from strip_eq s c]
    exact q _ F H A (Grow.refl S F H) (.str _)⟩
theorem rfindD : MtdR Γ X "str.rfind" (.str s) [.str t] (.int (Txt.rfind ⟨s.toArray⟩ ⟨t.toArray⟩)) := ⟨_, mt_rfind, fun S F H x vs Qv A rx rxs q => by
  cases rxs with
  | cons ru rr =>
    cases rr
    cases ru
    cases rx
    exact ⟨_, _, rfl, rfl, q _ F H A (Grow.refl S F H) (.int _)⟩⟩
theorem findD : MtdR Γ X "str.find" (.str s) [.str t] (.int (Txt.find ⟨s.toArray⟩ ⟨t.toArray⟩)) := ⟨_, mt_find, fun S F H x vs Qv A rx rxs q => by
  cases rxs with
  | cons ru rr =>
    cases rr
    cases ru
    cases rx
    exact ⟨_, _, rfl, rfl, q _ F H A (Grow.refl S F H) (.int _)⟩⟩
theorem find3D {i : Int} : MtdR Γ X "str.find" (.str s) [.str t, .int i] (.int (Txt.find3 ⟨s.toArray⟩ ⟨t.toArray⟩ i)) := ⟨_, mt_find3, fun S F H x vs Qv A rx rxs q => by
  cases rxs with
  | cons ru rr =>
    cases rr with
    | cons r2 rr =>
      cases rr
      cases ru
      cases rx
      cases r2
      exact ⟨_, _, _, rfl, rfl, q _ F H A (Grow.refl S F H) (.int _)⟩⟩
theorem rfind4D {i j : Int} : MtdR Γ X "str.rfind" (.str s) [.str t, .int i, .int j] (.int (Txt.rfindIn ⟨s.toArray⟩ ⟨t.toArray⟩ i j)) := ⟨_, mt_rfind4, fun S F H x vs Qv A rx rxs q => by
  cases rxs with
  | cons ru rr =>
    cases rr with
    | cons r2 rr =>
      cases rr with
      | cons r3 rr =>
        cases rr
        cases ru
        cases rx
        cases r2
        cases r3
        exact ⟨_, _, _, _, rfl, rfl, q _ F H A (Grow.refl S F H) (.int _)⟩⟩
theorem isalphaD : MtdR Γ X "str.isalpha" (.str s) [] (.bl (Txt.isalpha ⟨s.toArray⟩)) := ⟨_, mt_isalpha, fun S F H x vs Qv A rx rxs q => by
  cases rxs
  cases rx
  exact ⟨_, rfl, rfl, trivial, q _ F H A (Grow.refl S F H) (.bl _)⟩⟩
end
end CR

end

section
namespace CR
open PySem PySem.Spec PyProof.Rows L2

section
variable {Γ : Wd} {X : Cx} {B : Bs} {e a b c o tg it elt : Expr} {es ifs tgs : List Expr} {st : Stmt} {sts body : List Stmt} {ρ ρ' : List Sl} {S : Sto} {N : List Str} {nm nmb : List (Str × NameKind)} {k j : Nat} {E : EK} {pos p p2 apos cpos px pl : Pos} {scope : Scope} {own : List (Str × Nat)}
variable {Q : D → Sto → Prop} {QB : Bool → Sto → Prop} {QA : List D → Sto → Prop} {Dd : Dn} {x m : Str} {Φ : FnS} {i : Nat} {f : Sl → List Sl}
/-- the parts of a comprehension leave the store: what is kept, mapped -/
theorem lcP {α : Type} {xs : List α} {g h : α → D} {pr : α → Bool} (hnb : nmB scope nm = nmb) (hl : xs.length ≤ 100000) (ρ2 : α → List Sl)
    (hg : ∀ x ∈ xs, ∀ Xb, Gd Γ Xb N nmb k B EN → wG Γ Xb B.H tg (own.map (·.2)) (g x) (wipeS ρ (own.map (·.2))) (ρ2 x))
    (ht : ∀ x ∈ xs, ∀ Xb, Gd Γ Xb N nmb k B EN → ∀ QB : Bool → Sto → Prop, QB (pr x) S → wTs Γ Xb B ifs (ρ2 x) S QB)
    (he : ∀ x ∈ xs, pr x = true → ∀ Xb, Gd Γ Xb N nmb k B EN → pE Γ Xb B elt (ρ2 x) S (h x)) (q : Q (.lst ((xs.filter pr).map h)) S) : LcQ Γ B N nm k elt tg ifs scope own ρ Q (xs.map g) S := by
  subst hnb
  refine ⟨by rw [List.length_map]; exact hl, fun ds acc S' => S' = S ∧ ∃ pre post, xs = pre ++ post ∧ ds = post.map g ∧ acc = (pre.filter pr).map h, ⟨rfl, [], xs, rfl, rfl, rfl⟩, fun d rest acc S' ⟨e, pre, post, e1, e2, e3⟩ => ?_, fun acc S' ⟨e, pre, post, e1, e2, e3⟩ => ?_⟩
  · subst e
    cases post with
    | nil => cases e2
    | cons y post =>
      rw [List.map_cons] at e2
      obtain ⟨e4, e5⟩ := List.cons.inj e2
      subst e4 e5 e3
      have hy : y ∈ xs := by rw [e1]; simp
      refine ⟨ρ2 y, fun Xb Gb => hg y hy Xb Gb, fun Xb Gb => ht y hy Xb Gb _ ⟨fun hz Xb Gb => ?_, fun hz => ?_⟩⟩
      · refine he y hy hz Xb Gb _ ⟨rfl, pre ++ [y], post, by rw [e1]; simp, rfl, ?_⟩
        rw [List.filter_append, List.filter_cons, if_pos hz, List.map_append]
        rfl
      · refine ⟨rfl, pre ++ [y], post, by rw [e1]; simp, rfl, ?_⟩
        rw [List.filter_append, List.filter_cons, if_neg (by rw [hz]; decide), List.filter_nil, List.append_nil]
  · subst e
    cases post with
    | cons y post => cases e2
    | nil =>
      rw [List.append_nil] at e1
      subst e1 e3
      exact q
/-- .. without a test -/
theorem lcM {α : Type} {xs : List α} {g h : α → D} (hnb : nmB scope nm = nmb) (hl : xs.length ≤ 100000) (ρ2 : α → List Sl)
    (hg : ∀ x ∈ xs, ∀ Xb, Gd Γ Xb N nmb k B EN → wG Γ Xb B.H tg (own.map (·.2)) (g x) (wipeS ρ (own.map (·.2))) (ρ2 x))
    (he : ∀ x ∈ xs, ∀ Xb, Gd Γ Xb N nmb k B EN → pE Γ Xb B elt (ρ2 x) S (h x)) (q : Q (.lst (xs.map h)) S) : LcQ Γ B N nm k elt tg [] scope own ρ Q (xs.map g) S := by
  refine lcP (pr := fun _ => true) hnb hl ρ2 hg (fun x hx Xb Gb QB q => wTs_nil q) (fun x hx _ => he x hx) ?_
  rw [List.filter_eq_self.mpr (fun _ _ => rfl)]
  exact q
/-- the name's slot, found by walking: the slots wiped, then the name given -/
theorem gNm (G : Gd Γ X N nm k B E) {bh : Hp} {is : List Nat} {y : D} {i : Nat} (hi : N[i]? = some x) (hx : Kd nm x .local) (hm : i ∈ is) : wG Γ X bh (.Name x pos) is y ρ (ρ.set i (.val y)) :=
  wG_name G hi (hx.lk G.uq) fun j hj z => hj (z ▸ hm)

structure Df (Γ : Wd) (x : Str) (st : Stmt) (ps : List Str) : Prop where
  ex : ∃ f fd, FunD Γ.K x x (defArgs st) (defBody st) (defScope st) [] [] f fd ∧ Γ.mg x = some (.ref f) ∧ Binds Γ.K fd ps []
structure Dm (Γ : Wd) (C : Addr) (m qual : Str) (st : Stmt) (ps : List Str) : Prop where
  ex : ∃ f fd, FunD Γ.K m qual (defArgs st) (defBody st) (defScope st) [] [] f fd ∧ Cls Γ.K C ∧ Meth Γ.K C m f ∧ Binds Γ.K fd ps []
structure Dc (Γ : Wd) (x : Str) (C : Addr) (qual : Str) (st : Stmt) (ps : List Str) : Prop where
  ex : ∃ f fd, FunD Γ.K "__init__" qual (defArgs st) (defBody st) (defScope st) [] [] f fd ∧ Γ.mg x = some (.ref C) ∧ Mk Γ.K C f ∧ Binds Γ.K fd ps []
theorem fn_df {ps : List Str} {st : Stmt} (D : Df Γ x st ps) (h : ∀ f fd, FunD Γ.K x x (defArgs st) (defBody st) (defScope st) [] [] f fd → OkD Γ k f fd ps Φ) : Fn Γ x k Φ := by
  obtain ⟨f, fd, F, h1, h2⟩ := D.ex
  exact ⟨f, fd, ps, h1, F.kp, h2, h f fd F⟩
theorem mt_dm {C : Addr} {qual : Str} {ps : List Str} {st : Stmt} (D : Dm Γ C m qual st ps) (h : ∀ f fd, FunD Γ.K m qual (defArgs st) (defBody st) (defScope st) [] [] f fd → OkD Γ k f fd ps Φ) : Mt Γ C m k Φ := by
  obtain ⟨f, fd, F, h1, h2, h3⟩ := D.ex
  exact ⟨f, fd, ps, h1, h2, h3, h f fd F⟩
theorem cn_dc {C : Addr} {qual : Str} {ps : List Str} {st : Stmt} (D : Dc Γ x C qual st ps) (h : ∀ f fd, FunD Γ.K "__init__" qual (defArgs st) (defBody st) (defScope st) [] [] f fd → OkD Γ k f fd ps Φ) : Cn Γ x C k Φ := by
  obtain ⟨f, fd, F, h1, h2, h3⟩ := D.ex
  exact ⟨f, fd, ps, h1, h2, h3, h f fd F⟩

/-- the new instance, before __init__ -/
theorem Ab.made {K : PySem.W.Frag} {F H : Hp} {q dq C : Addr} (A : Ab K S F H) (h1 : H q = none) (h2 : H dq = none) (ne : dq ≠ q) : Ab K (put S q (.ins C [])) F (upd (upd H dq (.own q)) q (.ins C dq [])) ∧ Grow S F H (put S q (.ins C [])) F (upd (upd H dq (.own q)) q (.ins C dq [])) := by
  have A1 := A.loose (o := .own q) h2
  have g1 := A.g_loose (o := .own q) h2
  have h3 : upd H dq (.own q) q = none := by rw [upd_ne ne.symm]; exact h1
  exact ⟨(A1.loose (o := .ins C dq []) h3).take (u := .ins C []) ⟨dq, [], upd_same, .nil⟩ (A1.fnone h3), g1.trans (A1.g_take h3)⟩
/-- an instance of the store is frozen -/
theorem Ab.frzI {K : PySem.W.Frag} {F H : Hp} {q C : Addr} {fs : List (Str × D)} (A : Ab K (put S q (.ins C fs)) F H) (hS : S q = none) : ∃ F', Ab K S F' H ∧ Ex F F' ∧ Rep K F' (.ref q) (.obj C fs) ∧ ∀ a, a ≠ q → F' a = F a := by
  obtain ⟨h1, dx, vs, h2, h3⟩ := A.st q _ put_same
  have ee := Evl.Ex.new (o := .ins C dx vs) h1
  refine ⟨upd F q (.ins C dx vs), ⟨fun a u e => ?_, fun a u e => ?_⟩, ee, .obj upd_same (h3.mono ee), fun a ne => upd_ne ne⟩
  · by_cases c : a = q
    · subst c
      rw [upd_same] at e
      rw [← e]
      exact h2
    · rw [upd_ne c] at e
      exact A.ex a u e
  · have ne : a ≠ q := fun c => by
      subst c
      rw [hS] at e
      cases e
    rw [upd_ne ne]
    obtain ⟨z1, z2⟩ := A.st a u (by rw [put_ne ne]; exact e)
    exact ⟨z1, z2.mono ee rfl⟩
/-- the call of a class whose __init__ is a def -/
theorem run_cn {C f : Addr} {fd : FuncData} {ps : List Str} {pins : List (Addr × Obj)} {s : Shared} {F H : Hp} {σ : L2.St} {us : List Value} {vs : List V} {ds : List D} {S1 : Sto} {F1 H1 : Hp} (G : Gd Γ X N nm k B E) (h2 : Mk Γ.K C f) (h3 : Binds Γ.K fd ps []) (h4 : OkD Γ j f fd ps Φ) (hj : j + 1 ≤ k)
    (c : Cf Γ B F H σ ρ S) (I : Inv X pins σ H1 s) (r : Vals vs us) (A1 : Ab Γ.K S1 F1 H1) (g1 : Grow S F H S1 F1 H1) (rl : RepL Γ.K F1 vs ds)
    (φ : ∀ q, S1 q = none → S q = none → Φ (.ref q :: ds) (put S1 q (.ins C [])) (fun d S2 => d = .non ∧ Q (.ref q) S2) (fun C' S2 => E C' ρ S2)) :
    wpAny (model X.prog X.w) X.A (call (.ref C) us) (EP X pins σ (VQ Γ S F H Q)) X.xe s := by
  have hx := s.heap.objs.size + 1
  have e1 : H1 (s.heap.objs.size + 1) = none := I.hok.fresh (Nat.le_succ _)
  have e2 : H1 s.heap.objs.size = none := I.hok.fresh (Nat.le_refl _)
  have ne : s.heap.objs.size ≠ s.heap.objs.size + 1 := Nat.ne_of_lt (Nat.lt_succ_self _)
  obtain ⟨A2, g2⟩ := A1.made (C := C) e1 e2 ne
  have φ2 := φ _ (A1.snone e1) (c.1.snone (g1.back e1))
  have hq : spD Γ.K Φ (V.ref (s.heap.objs.size + 1) :: vs) (upd (upd H1 s.heap.objs.size (.own (s.heap.objs.size + 1))) (s.heap.objs.size + 1) (.ins C s.heap.objs.size [])) (fun v H2 => v = .non ∧ VQ Γ S F H Q (.ref (s.heap.objs.size + 1)) H2) (L2.WE (LX Γ.K B E) σ) :=
    ⟨_, F1, _, _, fun C S2 => E C ρ S2, A2, .cons (.ref _) rl, φ2, fun v d S' F' H' A' g' r' ⟨q1, q2⟩ => by
      subst q1
      cases r'
      exact ⟨rfl, F', _, S', A', (g1.trans g2).trans g', .ref _, q2⟩,
    fun C S' F' H' A' g' q => ⟨C, ρ, S', F', rfl, rfl, A', c.2.1.grow ((g1.trans g2).trans g'), c.2.2.trans ((g1.trans g2).trans g'), q⟩⟩
  have F0 := h4.at G
  have I2 := Inv.made (C := C) I
  have r2 : Vals (V.ref (s.heap.objs.size + 1) :: (vs ++ [])) (Value.ref (s.heap.objs.size + 1) :: (us ++ [])) := .cons rfl (r.append .nil)
  have hq2 := hq
  rw [← List.append_nil vs] at hq2
  have hl : (Value.ref (s.heap.objs.size + 1) :: us ++ []).length = ps.length := by
    have e := r2.length
    rw [F0.len _ _ _ _ hq2] at e
    exact e.symm
  have M : Mk X.K C f := by rw [G.hK]; exact h2
  have hb : Binds X.K fd ps [] := by rw [G.hK]; exact h3
  refine wpAny_call (make_map (f := f) I.kIn M.makes M.init (beq_iff_eq.mp M.fn) (codeAny_mono (F0.run _ X.stack _ _ ⟨Value.ref (s.heap.objs.size + 1) :: us, []⟩ (Value.ref (s.heap.objs.size + 1) :: (us ++ [])) _ _ (L2.WE (LX Γ.K B E) σ) ((G.room.mono hj).make C us [])
    (I2.env0.make C us []) (by have z := hb _ (Value.ref (s.heap.objs.size + 1) :: us) I2.kIn hl; rw [List.cons_append] at z; exact z) r2 hq2) fun r s' hq' => ?_))
  cases r with
  | error e => exact passAt G.tk σ pins _ _ e s' I2 hq'
  | ok fl =>
    cases fl with
    | ret u =>
      obtain ⟨v, H', I3, rv, ev, q3⟩ := I2.after hq'
      subst ev
      exact ⟨rv, ⟨V.ref (s.heap.objs.size + 1), H', I3, rfl, q3⟩⟩
    | next => exact False.elim hq'
    | brk => exact False.elim hq'
    | cont => exact False.elim hq'
/-- C(e, ..): a new instance of the store -/
theorem eNew {C : Addr} (G : Gd Γ X N nm k B E) (h : Cn Γ x C j Φ) (hj : j + 1 ≤ k) (hg : Kd nm x .globalImplicit)
    (ha : wA Γ X B (e :: es) ρ S fun ds S1 => ∀ q, S1 q = none → S q = none → Φ (.ref q :: ds) (put S1 q (.ins C [])) (fun d S2 => d = .non ∧ Q (.ref q) S2) (fun C' S2 => E C' ρ S2)) (hdb : (x == ("__debug__" : Str)) = false := by decide)
    (he : starEach (e :: es) X.env = (false, eval e X.env) :: starEach es X.env := by rfl) (hpl : (backTo pos (starEach es X.env)).any (·.1) = false := by rfl) : wE Γ X B (.Call (.Name x p) (e :: es) [] pos) ρ S Q := .mk fun F H σ c => by
  obtain ⟨f, fd, ps, h1, h2, h3, h4⟩ := h.ex
  intro pins s I
  refine wpAny_Call_Name_kw (ld_glob I (G.gl (hg.lk G.uq)) (by rw [G.hm]; exact h1) ?_ hdb)
  refine PySem.W.callWith_K (h₀ := X.base) I.ok.mod.kin (by rw [G.hK]; exact h2.kp) (thn (ha.run F H σ c pos pins s I) fun us s1 ⟨vs, H1, I1, r, F1, ds, S1, A1, g1, rl, φ⟩ => ⟨I1.kIn, ?_⟩) he hpl
  exact run_cn G h2 h3 h4 hj c I1 r A1 g1 rl φ
theorem eNew0 {C : Addr} (G : Gd Γ X N nm k B E) (h : Cn Γ x C j Φ) (hj : j + 1 ≤ k) (hg : Kd nm x .globalImplicit)
    (ha : ∀ q, S q = none → Φ [.ref q] (put S q (.ins C [])) (fun d S2 => d = .non ∧ Q (.ref q) S2) (fun C' S2 => E C' ρ S2)) (hdb : (x == ("__debug__" : Str)) = false := by decide) : wE Γ X B (.Call (.Name x p) [] [] pos) ρ S Q := .mk fun F H σ c => by
  obtain ⟨f, fd, ps, h1, h2, h3, h4⟩ := h.ex
  intro pins s I
  refine wpAny_Call_Name_kw (ld_glob I (G.gl (hg.lk G.uq)) (by rw [G.hm]; exact h1) ?_ hdb)
  refine PySem.W.callWith_K0 (first := []) I.kIn (by rw [G.hK]; exact h2.kp) ?_
  exact run_cn G h2 h3 h4 hj c I .nil c.1 (Grow.refl S F H) .nil fun q h _ => ha q h
/-- what an expression leaves in the store as a new instance is frozen: a datum from there -/
theorem eFrz {C : Addr} (h : wE Γ X B e ρ S fun d S1 => ∃ q fs S2, d = .ref q ∧ S2 q = none ∧ S q = none ∧ S1 = put S2 q (.ins C fs) ∧ Q (.obj C fs) S2) : wE Γ X B e ρ S Q := .mk fun F H σ c => by
  refine (h.run F H σ c).mono fun v H1 ⟨F1, d, S1, A1, g1, r1, q, fs, S2, hd, h2, h3, h4, hq⟩ => ?_
  subst hd h4
  cases r1
  obtain ⟨F2, A2, ee, r2, same⟩ := A1.frzI h2
  refine ⟨F2, _, S2, A2, ⟨g1.ex.trans ee, fun a o z n => g1.fr a o z n, fun a o z n => ?_, fun a o z n => ?_, fun a o z => g1.th a o z⟩, r2, hq⟩
  · by_cases e : a = q
    · subst e
      have := g1.ns a o z h3
      rw [put_same] at this
      cases this
    · rw [same a e]; exact g1.nf a o z n
  · have := g1.ns a o z n
    by_cases e : a = q
    · subst e
      exact h2
    · rw [put_ne e] at this
      exact this
/-- C(e, ..), frozen at once: __init__ only gives it its fields -/
theorem eNewO {C : Addr} (G : Gd Γ X N nm k B E) (h : Cn Γ x C j Φ) (hj : j + 1 ≤ k) (hg : Kd nm x .globalImplicit)
    (ha : wA Γ X B (e :: es) ρ S fun ds S1 => ∃ fs, (∀ q, S1 q = none → Φ (.ref q :: ds) (put S1 q (.ins C [])) (fun d S2 => d = .non ∧ S2 = put S1 q (.ins C fs)) (fun C' S2 => E C' ρ S2)) ∧ Q (.obj C fs) S1) (hdb : (x == ("__debug__" : Str)) = false := by decide)
    (he : starEach (e :: es) X.env = (false, eval e X.env) :: starEach es X.env := by rfl) (hpl : (backTo pos (starEach es X.env)).any (·.1) = false := by rfl)
    (hm : ∀ (ds : List D) (S : Sto) (Q Q' : D → Sto → Prop) (E : Addr → Sto → Prop), (∀ d S, Q d S → Q' d S) → Φ ds S Q E → Φ ds S Q' E) : wE Γ X B (.Call (.Name x p) (e :: es) [] pos) ρ S Q :=
  eFrz (C := C) (eNew G h hj hg (ha.mono fun ds S1 ⟨fs, h1, h2⟩ q hq hq0 => hm _ _ _ _ _ (fun d S2 ⟨e1, e2⟩ => ⟨e1, q, fs, S1, rfl, hq, hq0, e2, h2⟩) (h1 q hq)) hdb he hpl)
end
end CR

end

section
namespace CR
open PySem PySem.Spec PyProof.Rows L2

theorem s_blank : (Str.ofString " ").cps.toList = [32] := by decide +kernel
theorem s_nl : (Str.ofString "\n").cps.toList = [10] := by decide +kernel
theorem s_empty : (Str.ofString "").cps.toList = [] := by decide +kernel
theorem str_one {c d : Nat} : ([c] = [d]) ↔ c = d := ⟨fun h => by injection h, fun h => by rw [h]⟩
theorem cutN_nat {s : List Nat} {a b : Nat} : cutN s (some (a : Int)) (some (b : Int)) = (s.drop (min a s.length)).take (min b s.length - min a s.length) := by
  unfold cutN
  rw [HT.sIx_nat, HT.sIx_nat]
theorem cutN_le {s : List Nat} {a b : Nat} (h : a ≤ b) (h2 : b ≤ s.length) : cutN s (some (a : Int)) (some (b : Int)) = (s.drop a).take (b - a) := by
  rw [cutN_nat, show min a s.length = a by omega, show min b s.length = b by omega]
theorem cutN_from {s : List Nat} {a : Nat} (h : a ≤ s.length) : cutN s (some (a : Int)) none = s.drop a := by
  unfold cutN
  rw [HT.sIx_nat, HT.sIx_none, Nat.min_eq_left h]
  exact List.take_of_length_le (by rw [List.length_drop]; omega)
theorem cutN_to {s : List Nat} {b : Nat} (h : b ≤ s.length) : cutN s none (some (b : Int)) = s.take b := by
  unfold cutN
  rw [HT.sIx_nat, HT.sIx_none, Nat.min_eq_left h]
  rfl
section
variable {Γ : Wd} {X : Cx} {B : Bs} {e a b c o tg it elt : Expr} {es ifs tgs : List Expr} {st : Stmt} {sts body : List Stmt} {ρ ρ' : List Sl} {S : Sto} {N : List Str} {nm nmb : List (Str × NameKind)} {k j : Nat} {E : EK} {pos p p2 apos cpos px pl : Pos} {scope : Scope} {own : List (Str × Nat)}
variable {Q : D → Sto → Prop} {QB : Bool → Sto → Prop} {QA : List D → Sto → Prop} {Dd : Dn} {x m f : Str} {Φ : FnS} {i : Nat}
/-- o.f = e, o an instance of the store -/
theorem sFldW (G : Gd Γ X N nm k B E) (h : wE Γ X B e ρ S fun y S1 => wE Γ X B o ρ S1 fun x S2 => ∃ q C fs, x = .ref q ∧ S2 q = some (.ins C fs) ∧ Fld Γ C f ∧ fs.length < 1000 ∧ Dd.nx ρ (put S2 q (.ins C (putD f y fs))))
    (hs : swapsWith e (some (.Attribute o f p2)) pos.line X.env = pure false := by rfl) : wS Γ X B (.Assign [.Attribute o f p2] e pos) ρ S Dd := .mk fun F H σ c => by
  refine (ps_fld pe_w pe_w hs).tw ((h.run F H σ c).mono fun v H1 ⟨F1, y, S1, A1, g1, r1, h1⟩ => ?_)
  have c1 := c.grow A1 g1
  refine (h1.run F1 H1 σ c1).mono fun u H2 ⟨F2, z, S2, A2, g2, r2, q, C, fs, e1, hq, fl, hl, nx⟩ => ?_
  subst e1
  cases r2
  obtain ⟨hf, dx, vs, h3, h4⟩ := A2.st q _ hq
  refine ⟨q, C, dx, vs, rfl, h3, by rw [G.hK]; exact fl.cl, by rw [G.hK]; exact fl.no, by rw [h4.length]; exact Nat.lt_of_lt_of_le hl (by decide), ?_⟩
  have g3 := A2.g_write (o := .ins C dx (putF f v vs)) (u' := .ins C (putD f y fs)) hq
  have A3 := A2.write (o := .ins C dx (putF f v vs)) (u' := .ins C (putD f y fs)) hq ⟨dx, _, upd_same, RepF.put (r1.mono g2.ex) h4⟩
  exact ⟨ρ, _, F2, (c1.grow A2 g2).grow A3 g3, g1.ex.trans (g2.ex.trans g3.ex), nx⟩
theorem mulA {i j : Int} (h1 : -18446744073709551616 < i) (h2 : i < 18446744073709551616) : BinR Γ X .Mult (.int i) (.int j) (.int (i * j)) := mulI (.inl ⟨by rw [show (2 : Int) ^ 64 = 18446744073709551616 by decide]; exact h1, by rw [show (2 : Int) ^ 64 = 18446744073709551616 by decide]; exact h2⟩)
theorem divA {i j : Int} (h1 : 0 < j) (h2 : j < 1073741824) : BinR Γ X .FloorDiv (.int i) (.int j) (.int (i / j)) := divI ⟨h1, h2⟩
theorem powA {i : Int} (h1 : 0 ≤ i) (h2 : i < 18446744073709551616) : BinR Γ X .Pow (.int i) (.int 5) (.int (i ^ 5)) := powI ⟨by decide, by decide, by rw [show (2 : Nat) ^ 64 = 18446744073709551616 by decide]; omega⟩
theorem wE_sp {jj : Nat} (q : Q (.str [32]) S) : wE Γ X B (.Constant (.str " ") jj pos) ρ S Q := wE_str (by rw [s_blank]; exact q)
theorem wE_nl {jj : Nat} (q : Q (.str [10]) S) : wE Γ X B (.Constant (.str "\n") jj pos) ρ S Q := wE_str (by rw [s_nl]; exact q)
theorem wE_em {jj : Nat} (q : Q (.str []) S) : wE Γ X B (.Constant (.str "") jj pos) ρ S Q := wE_str (by rw [s_empty]; exact q)
theorem slcTo {s : List Nat} {b : Nat} (h : b ≤ s.length) (hs : s.length ≤ 100000) : SlcR Γ X (.str s) none (some (b : Int)) (.str (s.take b)) := by
  have := slcS (Γ := Γ) (X := X) (lo := none) (hi := some (b : Int)) hs
  rwa [cutN_to h] at this
theorem slcFrom {s : List Nat} {a : Nat} (h : a ≤ s.length) (hs : s.length ≤ 100000) : SlcR Γ X (.str s) (some (a : Int)) none (.str (s.drop a)) := by
  have := slcS (Γ := Γ) (X := X) (lo := some (a : Int)) (hi := none) hs
  rwa [cutN_from h] at this
/-- what a part without a trace gives -/
theorem pureI {w : D} {R : D → Prop} (h : pE Γ X B e ρ S w) (q : R w) : ∃ w, pE Γ X B e ρ S w ∧ R w := ⟨w, h, q⟩
theorem eChain {o1 o2 : CmpOp} (h : wE Γ X B a ρ S fun x S1 => wE Γ X B b ρ S1 fun y S2 => ∃ z, CmpR Γ X o1 x y z ∧ ∃ w, pE Γ X B c ρ S2 w ∧ ∃ z', CmpR Γ X o2 y w z' ∧ Q (.bl (z && z')) S2)
    (hm : lastMarks [o1, o2] [b, c] = false := by with_unfolding_all rfl) : wE Γ X B (.Compare a [o1, o2] [b, c] pos) ρ S Q :=
  wE_chain (h.mono fun x S1 h1 => h1.mono fun y S2 ⟨z, hz, w, hw, z', hz', q⟩ => ⟨z, hz, fun e => hw _ ⟨z', hz', by subst e; exact q⟩, fun e => by subst e; exact q⟩) hm
theorem tChain {o1 o2 : CmpOp} (h : wE Γ X B a ρ S fun x S1 => wE Γ X B b ρ S1 fun y S2 => ∃ z, CmpR Γ X o1 x y z ∧ ∃ w, pE Γ X B c ρ S2 w ∧ ∃ z', CmpR Γ X o2 y w z' ∧ QB (z && z') S2)
    (hm : lastMarks [o1, o2] [b, c] = false := by with_unfolding_all rfl) : wT Γ X B (.Compare a [o1, o2] [b, c] pos) ρ S QB :=
  wT_chain (h.mono fun x S1 h1 => h1.mono fun y S2 ⟨z, hz, w, hw, z', hz', q⟩ => ⟨z, hz, fun e => hw _ ⟨z', hz', by subst e; exact q⟩, fun e => by subst e; exact q⟩) hm
/-- what a walk asks, told of the things gone by -/
theorem forQ {α : Type} {xs : List α} {g : α → D} {is : List Nat} (W : List α → List Sl → Sto → Prop) (w0 : W [] ρ S)
    (turn : ∀ y pre post ρ' S', xs = pre ++ y :: post → W pre ρ' S' → ∃ ρ2, wG Γ X B.H tg is (g y) ρ' ρ2 ∧ wSs Γ X B body ρ2 S' { Dd with nx := Next (W (pre ++ [y])), ct := Next (W (pre ++ [y])), bk := Dd.nx })
    (fin : ∀ ρ' S', W xs ρ' S' → Dd.nx ρ' S') : ∃ W : List D → List Sl → Sto → Prop, W (xs.map g) ρ S ∧
      (∀ x rest ρ' S', W (x :: rest) ρ' S' → ∃ ρ2, wG Γ X B.H tg is x ρ' ρ2 ∧ wSs Γ X B body ρ2 S' { Dd with nx := Next (W rest), ct := Next (W rest), bk := Dd.nx }) ∧ (∀ ρ' S', W [] ρ' S' → Dd.nx ρ' S') := by
  refine ⟨fun ds ρ' S' => ∃ pre post, xs = pre ++ post ∧ ds = post.map g ∧ W pre ρ' S', ⟨[], xs, rfl, rfl, w0⟩, fun x rest ρ' S' ⟨pre, post, e1, e2, w⟩ => ?_, fun ρ' S' ⟨pre, post, e1, e2, w⟩ => ?_⟩
  · cases post with
    | nil => cases e2
    | cons y post =>
      rw [List.map_cons] at e2
      obtain ⟨rfl, rfl⟩ := List.cons.inj e2
      obtain ⟨ρ2, h1, h2⟩ := turn y pre post ρ' S' e1 w
      have nx : ∀ ρ S, Next (W (pre ++ [y])) ρ S → Next (fun ρ' S' => ∃ pre' post', xs = pre' ++ post' ∧ post.map g = post'.map g ∧ W pre' ρ' S') ρ S := fun ρ S q => ⟨pre ++ [y], post, by rw [e1]; simp, rfl, q.ex⟩
      exact ⟨ρ2, h1, h2.mono nx (fun _ _ q => q) (fun _ _ q => q) nx⟩
  · cases post with
    | nil =>
      rw [List.append_nil] at e1
      subst e1
      exact fin ρ' S' w
    | cons y post => cases e2
end
end CR

end

section
namespace CR
open PySem PySem.Spec PyProof.Rows L2

/-- what an operation does to the store -/
def OpMS (Γ : Wd) (r : V → List V → Hp → VK → Prop) (S : Sto) (x : D) (xs : List D) (R : D → Sto → Prop) : Prop := ∀ (F H : Hp) (v : V) (vs : List V) (Qv : VK), Ab Γ.K S F H → Rep Γ.K F v x → RepL Γ.K F vs xs →
  (∀ v' d S' F' H', Ab Γ.K S' F' H' → Grow S F H S' F' H' → Rep Γ.K F' v' d → R d S' → Qv v' H') → r v vs H Qv
def OpAS (Γ : Wd) (r : List V → Hp → VK → Prop) (S : Sto) (xs : List D) (R : D → Sto → Prop) : Prop := ∀ (F H : Hp) (vs : List V) (Qv : VK), Ab Γ.K S F H → RepL Γ.K F vs xs →
  (∀ v' d S' F' H', Ab Γ.K S' F' H' → Grow S F H S' F' H' → Rep Γ.K F' v' d → R d S' → Qv v' H') → r vs H Qv
def Op2S (Γ : Wd) (r : R2) (S : Sto) (x y : D) (R : D → Sto → Prop) : Prop := ∀ (F H : Hp) (v u : V) (Qv : VK), Ab Γ.K S F H → Rep Γ.K F v x → Rep Γ.K F u y →
  (∀ v' d S' F' H', Ab Γ.K S' F' H' → Grow S F H S' F' H' → Rep Γ.K F' v' d → R d S' → Qv v' H') → r v u H Qv
structure MtdS (Γ : Wd) (X : Cx) (id : String) (S : Sto) (x : D) (xs : List D) (R : D → Sto → Prop) : Prop where
  ex : ∃ r, MtR X id r ∧ OpMS Γ r S x xs R
structure BltS (Γ : Wd) (X : Cx) (f : Value) (S : Sto) (xs : List D) (R : D → Sto → Prop) : Prop where
  ex : ∃ r, CallR X f r ∧ OpAS Γ r S xs R
structure SubS (Γ : Wd) (X : Cx) (S : Sto) (x y : D) (R : D → Sto → Prop) : Prop where
  ex : ∃ r, IxR X r ∧ Op2S Γ r S x y R
structure CmpS (Γ : Wd) (X : Cx) (op : CmpOp) (S : Sto) (x y : D) (R : Bool → Sto → Prop) : Prop where
  ex : ∃ r, OpR X (compareOp op) r ∧ Op2S Γ r S x y (fun d S' => ∃ z, d = .bl z ∧ R z S')

theorem foldl_one (c : Nat) : ∀ (n : Nat) (acc : Array Nat), (List.replicate n #[c]).foldl (· ++ ·) acc = acc ++ (List.replicate n c).toArray
  | 0, acc => by simp
  | n + 1, acc => by
    rw [List.replicate_succ, List.foldl_cons, foldl_one c n, List.replicate_succ]
    apply Array.ext'
    simp
theorem op_mul_one {X : Cx} : OpR X (binaryOp .Mult) (fun x y H Q => ∃ (c n : Nat), x = .str ⟨#[c]⟩ ∧ y = .int (n : Int) ∧ 1 < n ∧ n ≤ 100000 ∧ Q (.str ⟨(List.replicate n c).toArray⟩) H) := by
  intro pins s σ H x y v u Q I rx ry h
  obtain ⟨c, n, rfl, rfl, h1, h2, q⟩ := h
  obtain ⟨t, rfl⟩ := rx
  obtain ⟨t', rfl⟩ := ry
  have hl : (⟨#[c]⟩ : Str).length = 1 := rfl
  have hx : ((n : Int) == 1 || (⟨#[c]⟩ : Str).length == 0) = false := by
    rw [hl]
    have : ((n : Int) == 1) = false := beq_eq_false_iff_ne.mpr (by omega)
    rw [this]
    rfl
  refine PySem.P.mul_str ?_ (fun _ _ => ?_) (fun _ _ => ?_) ?_
  · rw [decide_eq_false (by omega), decide_eq_false (by omega)]
    rfl
  · rw [hl]
    have : (1 : Int) ≤ (2 ^ 63 - 1) / (n : Int) := by
      rw [Int.le_ediv_iff_mul_le (by omega)]
      omega
    omega
  · rw [hl, Int.toNat_natCast, Nat.one_mul]
    unfold Builtin.Str.tooLong
    exact decide_eq_false (by
      have : sizeLine = 16777216 := by decide
      omega)
  · rw [if_neg (by omega), hx, if_neg (by decide), Int.toNat_natCast]
    have e : (List.replicate n (⟨#[c]⟩ : Str).cps).foldl (· ++ ·) #[] = (List.replicate n c).toArray := by
      rw [show (⟨#[c]⟩ : Str).cps = #[c] from rfl, foldl_one]
      simp
    rw [e]
    refine ⟨?_, ?_⟩
    · show (List.replicate n c).toArray.size ≤ sizeLine
      have : sizeLine = 16777216 := by decide
      rw [List.size_toArray, List.length_replicate]
      omega
    · exact ⟨.str ⟨(List.replicate n c).toArray⟩, H, I.tok _, ⟨_, rfl⟩, q⟩
theorem mulS {Γ : Wd} {X : Cx} {c n : Nat} (h1 : 1 < n) (h2 : n ≤ 100000) : BinR Γ X .Mult (.str [c]) (.int (n : Int)) (.str (List.replicate n c)) := ⟨_, op_mul_one, op2_id fun K F H v u Qv e rv ru q => by
  cases rv
  cases ru
  exact ⟨c, n, rfl, rfl, h1, h2, q _ fun _ => .str _⟩⟩
section
variable {Γ : Wd} {X : Cx} {B : Bs} {e a b c o tg it elt : Expr} {es ifs tgs : List Expr} {st : Stmt} {sts body : List Stmt} {ρ ρ' : List Sl} {S : Sto} {N : List Str} {nm nmb : List (Str × NameKind)} {k j : Nat} {E : EK} {pos p p2 apos cpos px pl : Pos} {scope : Scope} {own : List (Str × Nat)}
variable {F H F' H' : Hp} {Q : D → Sto → Prop} {QB : Bool → Sto → Prop} {QA : List D → Sto → Prop} {Dd : Dn} {x m f : Str} {Φ : FnS} {i : Nat} {R : D → Sto → Prop}
theorem OpMS.mono {r : V → List V → Hp → VK → Prop} {y : D} {xs : List D} {R' : D → Sto → Prop} (h : OpMS Γ r S y xs R) (f : ∀ d S', R d S' → R' d S') : OpMS Γ r S y xs R' := fun F H v vs Qv A rv rl q => h F H v vs Qv A rv rl fun v' d S' F' H' A' g' r' z => q v' d S' F' H' A' g' r' (f _ _ z)
/-- o.m(e, ..) of a built-in's method, the store too -/
theorem wE_bmS (G : Gd Γ X N nm k B E) (h : wE Γ X B o ρ S fun y S1 => ∃ T id, MtId m T id ∧ TyD T y S1 ∧ wA Γ X B (e :: es) ρ S1 fun xs S2 => MtdS Γ X id S2 y xs Q)
    (hbase : attributeBase o m X.env (eval o X.env) = eval o X.env := by rfl)
    (hfew : ((backTo cpos (starEach (e :: es) X.env)).all (fun x => !x.1) && (backToKw cpos (keywordEach [] X.env)).all (fun x => x.1.isSome)
      && decide ((e :: es).length + ([] : List Keyword).length + (if ([] : List Keyword).isEmpty then 0 else 1) < 30)) = true := by rfl)
    (hline : (apos.endLine == cpos.line) = true := by rfl) (hs : starEach (e :: es) X.env = (false, eval e X.env) :: starEach es X.env := by rfl) (hplain : (backTo cpos (starEach es X.env)).any (·.1) = false := by rfl) :
    wE Γ X B (.Call (.Attribute o m apos) (e :: es) [] cpos) ρ S Q := .mk fun F H σ c => by
  intro pins s I
  refine wpAny_Call_method_late hbase hfew hline rfl (thn (h.run F H σ c pins s I) fun v s1 ⟨y, H1, I1, r1, F1, d, S1, A1, g1, rd, T, id, mi, ty, ha⟩ => ?_)
  obtain ⟨h1, h2⟩ := tyV_is I1 r1 (by rw [G.hK]; exact rd.tyv ty A1)
  refine ⟨T, id, mi.pa, mi.slot, mi.hty, h1, h2, ?_⟩
  have hA := ha.run F1 H1 σ (c.grow A1 g1) cpos pins s1 I1
  rw [hs] at hA ⊢
  refine Calls.callWith_builtin (by show (false || (backTo cpos (starEach es X.env)).any (·.1)) = false; rw [hplain] <;> rfl) (Calls.evalArgs_plain ?_)
  refine thn hA fun us s2 ⟨vs, H2, I2, r2, F2, ds, S2, A2, g2, rl, ⟨r, hr, op⟩⟩ => hr pins s2 σ H2 y vs v us _ I2 r1 r2 ?_
  exact op F2 H2 y vs _ A2 (rd.mono g2.ex) rl fun v' d S' F' H' A' g' r' q => ⟨F', d, S', A', (g1.trans g2).trans g', r', q⟩
theorem wE_bmS0 (G : Gd Γ X N nm k B E) (h : wE Γ X B o ρ S fun y S1 => ∃ T id, MtId m T id ∧ TyD T y S1 ∧ MtdS Γ X id S1 y [] Q)
    (hbase : attributeBase o m X.env (eval o X.env) = eval o X.env := by rfl) (hline : (apos.endLine == cpos.line) = true := by rfl) : wE Γ X B (.Call (.Attribute o m apos) [] [] cpos) ρ S Q := .mk fun F H σ c => by
  intro pins s I
  refine wpAny_Call_method0_late hbase hline (thn (h.run F H σ c pins s I) fun v s1 ⟨y, H1, I1, r1, F1, d, S1, A1, g1, rd, T, id, mi, ty, ⟨r, hr, op⟩⟩ => ?_)
  obtain ⟨h1, h2⟩ := tyV_is I1 r1 (by rw [G.hK]; exact rd.tyv ty A1)
  refine ⟨T, id, mi.pa, mi.slot, mi.hty, h1, h2, Calls.callWith_builtin rfl (PySem.evalArgs_none (hr pins s1 σ H1 y [] v [] _ I1 r1 .nil ?_))⟩
  exact op F1 H1 y [] _ A1 rd .nil fun v' d S' F' H' A' g' r' q => ⟨F', d, S', A', g1.trans g', r', q⟩
/-- f(e, ..), f a built-in, the store too -/
theorem eBltS {id : String} (G : Gd Γ X N nm k B E) (hb : Bfn x id) (hg : Kd nm x .globalImplicit) (hm : Γ.mg x = none) (ha : wA Γ X B (e :: es) ρ S fun ds S1 => BltS Γ X (.builtin id) S1 ds Q)
    (he : starEach (e :: es) X.env = (false, eval e X.env) :: starEach es X.env := by rfl) (hpl : (backTo pos (starEach es X.env)).any (·.1) = false := by rfl) :
    wE Γ X B (.Call (.Name x p) (e :: es) [] pos) ρ S Q := .mk fun F H σ c => by
  intro pins s I
  refine wpAny_Call_Name_kw (ld_blt I (G.gl (hg.lk G.uq)) (by rw [G.hm]; exact hm) hb.boot.1 ?_ hb.boot.2.1 hb.boot.2.2)
  exact PyProof.Rows.callWith_builtin1 (thn (ha.run F H σ c pos pins s I) fun us s1 ⟨vs, H1, I1, rv, F1, ds, S1, A1, g1, rl, ⟨r, hr, o⟩⟩ =>
    hr pins s1 σ H1 vs us _ I1 rv (o F1 H1 vs _ A1 rl fun v' d S' F' H' A' g' r' q => ⟨F', d, S', A', g1.trans g', r', q⟩)) he hpl
theorem eBtyS {id : String} (G : Gd Γ X N nm k B E) (hb : Bty x id) (hg : Kd nm x .globalImplicit) (hm : Γ.mg x = none) (ha : wA Γ X B (e :: es) ρ S fun ds S1 => BltS Γ X (.type id) S1 ds Q)
    (he : starEach (e :: es) X.env = (false, eval e X.env) :: starEach es X.env := by rfl) (hpl : (backTo pos (starEach es X.env)).any (·.1) = false := by rfl) :
    wE Γ X B (.Call (.Name x p) (e :: es) [] pos) ρ S Q := .mk fun F H σ c => by
  intro pins s I
  refine wpAny_Call_Name_kw (ld_blt I (G.gl (hg.lk G.uq)) (by rw [G.hm]; exact hm) hb.boot.1 ?_ hb.boot.2.1 hb.boot.2.2)
  exact PyProof.Rows.callWith_type1 (thn (ha.run F H σ c pos pins s I) fun us s1 ⟨vs, H1, I1, rv, F1, ds, S1, A1, g1, rl, ⟨r, hr, o⟩⟩ =>
    hr pins s1 σ H1 vs us _ I1 rv (o F1 H1 vs _ A1 rl fun v' d S' F' H' A' g' r' q => ⟨F', d, S', A', g1.trans g', r', q⟩)) he hpl
/-- a[b], the store too -/
theorem wE_subS (h : wE Γ X B a ρ S fun y S1 => wE Γ X B b ρ S1 fun z S2 => SubS Γ X S2 y z Q) (hs : PlainIx b := by intro _ _; rfl) : wE Γ X B (.Subscript a b pos) ρ S Q := .mk fun F H σ c => by
  intro pins s I
  refine Subscript_ (binT pe_w pe_w I (R := fun v u H2 => ∃ r, IxR X r ∧ r v u H2 (VQ Γ S F H Q)) ?_ fun v u s2 x y H2 I2 rx ry ⟨r, hr, q⟩ => hr a b pins s2 σ H2 x y v u _ I2 rx ry q (hs _ _))
  refine (h.run F H σ c).mono fun v H1 ⟨F1, x, S1, A1, g1, r1, h1⟩ => ?_
  refine (h1.run F1 H1 σ (c.grow A1 g1)).mono fun u H2 ⟨F2, y, S2, A2, g2, r2, ⟨r, hr, o⟩⟩ => ⟨r, hr, ?_⟩
  exact o F2 H2 v u _ A2 (r1.mono g2.ex) r2 fun v' d S' F' H' A' g' r' q => ⟨F', d, S', A', (g1.trans g2).trans g', r', q⟩
/-- .. of which the store doesn't matter -/
theorem subSR {y z w : D} (h : SubR Γ X y z w) (q : R w S) : SubS Γ X S y z R := by
  obtain ⟨r, hr, o⟩ := h
  exact ⟨r, hr, fun F H v u Qv A rv ru f => o S F H v u Qv A rv ru fun v' F' H' A' g' r' => f v' _ S F' H' A' g' r' q⟩
theorem bltSR {xs : List D} {fv : Value} {w : D} (h : BltR Γ X fv xs w) (q : R w S) : BltS Γ X fv S xs R := by
  obtain ⟨r, hr, o⟩ := h
  exact ⟨r, hr, fun F H v Qv A rv f => o S F H v Qv A rv fun v' F' H' A' g' r' => f v' _ S F' H' A' g' r' q⟩
theorem mtdSR {xs : List D} {id : String} {y w : D} (h : MtdR Γ X id y xs w) (q : R w S) : MtdS Γ X id S y xs R := by
  obtain ⟨r, hr, o⟩ := h
  exact ⟨r, hr, fun F H v vs Qv A rv rl f => o S F H v vs Qv A rv rl fun v' F' H' A' g' r' => f v' _ S F' H' A' g' r' q⟩

/-- the parts of a comprehension change the store: I tells how -/
theorem lcS {α : Type} {xs : List α} {g h : α → D} (I : List α → Sto → Prop) (hnb : nmB scope nm = nmb) (hl : xs.length ≤ 100000) (ρ2 : α → List Sl)
    (hg : ∀ x ∈ xs, ∀ Xb, Gd Γ Xb N nmb k B EN → wG Γ Xb B.H tg (own.map (·.2)) (g x) (wipeS ρ (own.map (·.2))) (ρ2 x)) (h0 : I [] S)
    (he : ∀ y pre post, xs = pre ++ y :: post → ∀ S', I pre S' → ∀ Xb, Gd Γ Xb N nmb k B EN → wE Γ Xb B elt (ρ2 y) S' fun d S2 => d = h y ∧ I (pre ++ [y]) S2) (q : ∀ S', I xs S' → Q (.lst (xs.map h)) S') : LcQ Γ B N nm k elt tg [] scope own ρ Q (xs.map g) S := by
  subst hnb
  refine ⟨by rw [List.length_map]; exact hl, fun ds acc S' => ∃ pre post, xs = pre ++ post ∧ ds = post.map g ∧ acc = pre.map h ∧ I pre S', ⟨[], xs, rfl, rfl, rfl, h0⟩, fun d rest acc S' ⟨pre, post, e1, e2, e3, hI⟩ => ?_, fun acc S' ⟨pre, post, e1, e2, e3, hI⟩ => ?_⟩
  · cases post with
    | nil => cases e2
    | cons y post =>
      rw [List.map_cons] at e2
      obtain ⟨e4, e5⟩ := List.cons.inj e2
      subst e4 e5 e3
      have hy : y ∈ xs := by rw [e1]; simp
      refine ⟨ρ2 y, fun Xb Gb => hg y hy Xb Gb, fun Xb Gb => wTs_nil ⟨fun _ Xb Gb => ?_, fun z => Bool.noConfusion z⟩⟩
      refine (he y pre post e1 S' hI Xb Gb).mono fun d S2 ⟨e6, hI2⟩ => ?_
      subst e6
      exact ⟨pre ++ [y], post, by rw [e1]; simp, rfl, by rw [List.map_append]; rfl, hI2⟩
  · cases post with
    | cons y post => cases e2
    | nil =>
      rw [List.append_nil] at e1
      subst e1 e3
      exact q S' hI

theorem tyRef {a : Addr} {xs : List D} (h : S a = some (.lst xs)) : TyD "list" (.ref a) S := .inr (.inr (.inl ⟨a, xs, rfl, h, rfl⟩))
theorem tyDct {a : Addr} {xs : List (Key × D)} (h : S a = some (.dct xs)) : TyD "dict" (.ref a) S := .inr (.inr (.inr ⟨a, xs, rfl, h, rfl⟩))
theorem m_append : MtId "append" "list" "list.append" := ⟨PySem.F.plainAttrs_list, PySem.F.slot_list_append, PySem.F.type_list_append⟩
theorem appS {l : Addr} {xs : List D} {d : D} (h : S l = some (.lst xs)) (hl : xs.length < 100000) (q : R .non (put S l (.lst (xs ++ [d])))) : MtdS Γ X "list.append" S (.ref l) [d] R := ⟨_, mt_append, fun F H v vs Qv A rv rl f => by
  cases rv
  cases rl with
  | cons r rr =>
    cases rr
    obtain ⟨hf, ws, h1, h2⟩ := A.st l _ h
    refine ⟨l, ws, _, rfl, rfl, h1, sz_lt (by rw [h2.length]; omega), ?_⟩
    exact f _ .non _ F _ (A.write (u' := .lst (xs ++ [d])) h ⟨_, upd_same, h2.append (.cons r .nil)⟩) (A.g_write h) .non q⟩
/-- x = [], a list of the store -/
theorem sTown {fu : Sl → List Sl} (G : Gs Γ X N nm k B E) (hu : UpF N x ρ fu) (hx : Kd nm x .local ∨ Kd nm x .cell) (h : ∀ a, S a = none → Dd.nx (fu (.val (.ref a))) (put S a (.lst []))) :
    wS Γ X B (.Assign [.Name x px] (.List [] pl) pos) ρ S Dd := by
  obtain ⟨i, h1, h2⟩ := hu.ix
  refine .mk fun F H σ c => ?_
  have hx' : nm.lookup x = some .local ∨ nm.lookup x = some .cell := hx.imp (Kd.lk G.g.uq) (Kd.lk G.g.uq)
  refine (ps_set (i := i) (by rw [G.g.hN]; exact G.g.nd) (by rw [G.g.hN]; exact h1) (by unfold L2.Loc; rw [G.g.hn]; exact hx') (pe_lst pa_w) rfl (.inl (G.fn x))).tw ?_
  refine ((wA_nil (QA := fun xs S1 => xs = [] ∧ S1 = S) ⟨rfl, rfl⟩ : wA Γ X B [] ρ S _).run F H σ c).mono fun vs H1 ⟨F1, xs, S1, A1, g1, r1, e1, e2⟩ => ?_
  subst e1 e2
  cases r1
  refine ⟨sz_le (Nat.zero_le _), fun p hp => ?_⟩
  have c1 := c.grow A1 g1
  have A2 := (A1.loose (o := .lst []) hp).take (u := .lst []) ⟨[], upd_same, .nil⟩ (A1.fnone hp)
  have g2 : Grow S1 F1 H1 (put S1 p (.lst [])) F1 (upd H1 p (.lst [])) := A1.g_take hp
  have c2 := c1.grow A2 g2
  refine ⟨_, put S1 p (.lst []), F1, ⟨A2, c2.2.1.set i (.ref p), c2.2.2⟩, g1.ex, ?_⟩
  rw [h2]
  exact h p (A1.snone hp)
theorem lenR {l : Addr} {xs : List D} (G : Gd Γ X N nm k B E) (h : S l = some (.lst xs)) (q : R (.int (xs.length : Nat)) S) : BltS Γ X (.builtin "len") S [.ref l] R := ⟨_, call_len_seq, fun F H vs Qv A r f => by
  cases r with
  | cons r1 rr =>
    cases rr
    cases r1
    obtain ⟨hf, ws, h1, h2⟩ := A.st l _ h
    refine ⟨_, _, rfl, .inl (SqL.of h1), ?_⟩
    rw [h2.length]
    exact f _ _ S F H A (Grow.refl S F H) (.int _) q⟩
theorem subLR {l : Addr} {xs : List D} {n : Int} {d : D} (G : Gd Γ X N nm k B E) (h : S l = some (.lst xs)) (hd : L2.atI xs n = some d) (q : R d S) : SubS Γ X S (.ref l) (.int n) R := ⟨_, ix_list, fun F H v u Qv A rv ru f => by
  cases ru
  cases rv
  obtain ⟨hf, ws, h1, h2⟩ := A.st l _ h
  obtain ⟨w, h3, h4⟩ := h2.atI hd
  exact ⟨_, _, n, w, rfl, rfl, SqL.of h1, h3, f _ d S F H A (Grow.refl S F H) h4 q⟩⟩
end
end CR

end

section
namespace CR
open PySem PySem.Spec PyProof.Rows L2

def excCB (K : PySem.W.Frag) (D : Addr) : Bool := decide (PySem.W.findIn K (.ref D) "__getattribute__" = some (some (.builtin "BaseException.__getattribute__"))) && (decide (PySem.W.findIn K (.ref D) "__getattr__" = some none) && (decide (PySem.W.subIn K (.ref D) (.type "BaseException") = some true) && (PySem.W.hasDictIn K D && (decide (PySem.W.findIn K (.ref D) "__class__" = some (some (.builtin "object.__class__"))) &&
  (decide (PySem.W.specialIn K (.builtin "object.__class__") "__get__" = some (some (.builtin "getset_descriptor.__get__"))) && (decide (PySem.W.takesIn K (.builtin "object.__class__") = some true) && decide (PySem.W.mroIn K D (.type "object") = some true)))))))
theorem and2 {a b : Bool} (h : (a && b) = true) : a = true ∧ b = true := (Bool.and_eq_true a b).mp h
theorem excCB_ok {K : PySem.W.Frag} {D : Addr} (h : excCB K D = true) : ExcC K D := by
  obtain ⟨h1, h⟩ := and2 h
  obtain ⟨h2, h⟩ := and2 h
  obtain ⟨h3, h⟩ := and2 h
  obtain ⟨h4, h⟩ := and2 h
  obtain ⟨h5, h⟩ := and2 h
  obtain ⟨h6, h⟩ := and2 h
  obtain ⟨h7, h8⟩ := and2 h
  exact ⟨of_decide_eq_true h1, of_decide_eq_true h2, of_decide_eq_true h3, h4, of_decide_eq_true h5, of_decide_eq_true h6, of_decide_eq_true h7, of_decide_eq_true h8⟩
/-- the error classes xs: what isinstance answers of them -/
def kindsB (K : PySem.W.Frag) (xs : List Str) : Bool := xs.all fun x => excCB K (He.ga K x) && (decide (PySem.W.kitOne K (.ref (He.ga K x)) (.type "ValueError") = some true) && xs.all fun y => decide (PySem.W.kitOne K (.ref (He.ga K x)) (.ref (He.ga K y)) = some (decide (x = y))))
theorem kinds_ve {K : PySem.W.Frag} {xs : List Str} (h : kindsB K xs = true) {x : Str} (hx : x ∈ xs) {Γ : Wd} (e : Γ.K = K) : IsX Γ (He.ga K x) (.ty "ValueError") true := by
  obtain ⟨h1, h2⟩ := and2 (List.all_eq_true.mp h x hx)
  obtain ⟨h2, h3⟩ := and2 h2
  subst e
  exact ⟨excCB_ok h1, _, .inr ⟨_, rfl, rfl⟩, of_decide_eq_true h2⟩
theorem kinds_is {K : PySem.W.Frag} {xs : List Str} (h : kindsB K xs = true) {x y : Str} (hx : x ∈ xs) (hy : y ∈ xs) {Γ : Wd} (e : Γ.K = K) : IsX Γ (He.ga K x) (.ref (He.ga K y)) (decide (x = y)) := by
  obtain ⟨h1, h2⟩ := and2 (List.all_eq_true.mp h x hx)
  obtain ⟨h2, h3⟩ := and2 h2
  subst e
  exact ⟨excCB_ok h1, _, .inl ⟨_, rfl, rfl⟩, of_decide_eq_true (List.all_eq_true.mp h3 y hy)⟩
/-- isinstance(True, bool) -/
def boolB (K : PySem.W.Frag) : Bool := decide (PySem.W.kitOne K (.type "bool") (.type "bool") = some true)
section
variable {P : Program} {w : World} {K : PySem.W.Frag} {h : Heap} {mg : Str → Option Value} {base : Heap}
theorem glv_int (X : K.In h) (G : h.Ns mainGlobals mg) {x : Str} {i : Int} (c : (He.Fa.int x i).ok K = true) : GlV ⟨P, w, K, mg, base⟩ x (.int i) := by
  obtain ⟨t, e⟩ := He.int_ok X G c
  exact ⟨_, .int i, e, ⟨t, rfl⟩, fun F => .int i⟩
theorem glv_str (X : K.In h) (G : h.Ns mainGlobals mg) {x z : Str} (c : (He.Fa.str x z).ok K = true) : GlV ⟨P, w, K, mg, base⟩ x (.str z.cps.toList) := by
  obtain ⟨t, e⟩ := He.str_ok X G c
  refine ⟨_, .str z, e, ⟨t, rfl⟩, fun F => ?_⟩
  have e2 : z = ⟨z.cps.toList.toArray⟩ := by rw [Array.toArray_toList]
  rw [show (V.str z) = V.str ⟨z.cps.toList.toArray⟩ from congrArg V.str e2]
  exact .str z.cps.toList
theorem glv_ref (X : K.In h) (G : h.Ns mainGlobals mg) {x : Str} (c : (He.Fa.glo x).ok K = true) : GlV ⟨P, w, K, mg, base⟩ x (.ref (He.ga K x)) := ⟨_, .ref (He.ga K x), He.glo_ok X G c, rfl, fun F => .ref _⟩
theorem exk (X : K.In h) (G : h.Ns mainGlobals mg) {x : Str} (c1 : (He.Fa.glo x).ok K = true) (c2 : (He.Fa.exc x).ok K = true) : ExK ⟨P, w, K, mg, base⟩ x (He.ga K x) := by
  obtain ⟨h1, h2, h3, h4⟩ := He.exc_ok c2
  exact ⟨He.glo_ok X G c1, h1, h2, h3, h4⟩
theorem fld {x f : Str} (c1 : (He.Fa.cls x).ok K = true) (c2 : (He.Fa.noat x f).ok K = true) : Fld ⟨P, w, K, mg, base⟩ (He.ga K x) f := ⟨He.cls_ok c1, He.noat_ok c2⟩
end
/-- the end of a law: its def is shown over every base -/
theorem walk_law {l : PySem.W.OpenLaw} {n k : Nat} {q : Program} {loose : List Str} {XP : (Str → Option Value) → Heap → Prop} {YP : World → Heap → Prop} {d : DefRec} {x : Str} {Φ : FnS}
    (hn : l.most = some n) (hn2 : n ≤ sizeLine) (hdf : d.params.defaults = []) (hr : Room k callerA) (hΦ : ∀ (ns : List Int) (S : Sto) (Q : D → Sto → Prop) (E : Addr → Sto → Prop), (∀ S', Q (.bl true) S') → Φ [.scr ns] S Q E)
    (F : ∀ (w : World) (mg : Str → Option Value) (fa : Addr) (h : Heap), YP w h → h.Ns mainGlobals mg → mg d.name = some (.ref fa) →
      ∃ (K : PySem.W.Frag) (fd : FuncData), K.In h ∧ (∀ (s : Shared) (u : Value), BindsTo s fd ⟨[u], []⟩ [(x, u)]) ∧ ∀ base : Heap, K.In base → base.Ns mainGlobals mg → OkD ⟨l.prog, w, K, mg, base⟩ k fa fd [x] Φ) :
    PySem.W.WalkO q loose XP YP l.row.toRowW d [] (fun f vs => PySem.call f vs) := by
  refine Att.attach_call hn hdf fun w s₀ s₁ mg mb fa o pm cd doc a vs ns G Y ho hd hcd hmg hobj hints hlen hg => ?_
  obtain ⟨K, fd, KX, hb, hF⟩ := F w mg fa _ Y G.T.g hmg
  refine law_call (CX := L2.CX l.prog w) (sp := spD K Φ) KX G.T.g G.T.b G.T.builtins G.T.nolimit hg hobj hints (Nat.le_trans hlen hn2) hr hF hb (fun H hO hS => ?_) fun H e s' ⟨_, _, _, _, _, _, _, _, _, _, _, _, z⟩ => z
  refine ⟨fun _ => none, H, [.scr ns], fun d _ => d = .bl true, fun _ _ => False, ⟨Evl.Ex.refl H, fun a o e => by cases e⟩, .cons (.scr hS) .nil, hΦ ns _ _ _ fun _ => rfl, fun v d S' F' H' _ _ r e => ?_, fun C S' F' H' _ _ e => e⟩
  subst e
  cases r
  rfl
end CR

end

section
namespace CR
open PySem PySem.Spec PyProof.Rows L2

theorem len_mk (s : List Nat) : (⟨s.toArray⟩ : Str).length = s.length := by simp [Str.length]
theorem getD_mk (s : List Nat) (v : Nat) : (⟨s.toArray⟩ : Str).cps.getD v 0 = s.getD v 0 := by
  simp [List.getD_eq_getElem?_getD]
theorem fromIndex_nat (n i : Nat) : fromIndex n (i : Int) = i := by
  unfold fromIndex
  rw [if_neg (by omega), Int.max_eq_right (by omega), Int.toNat_natCast]
theorem find3N (s : List Nat) (c i : Nat) : (Txt.find3 ⟨s.toArray⟩ ⟨[c].toArray⟩ (i : Int) = -1 ∧ ∀ j, i ≤ j → s[j]? ≠ some c) ∨ ∃ k : Nat, Txt.find3 ⟨s.toArray⟩ ⟨[c].toArray⟩ (i : Int) = (k : Int) ∧ i ≤ k ∧ s[k]? = some c ∧ ∀ j, i ≤ j → j < k → s[j]? ≠ some c := by
  have z := PySem.StrLaws.find3_spec ⟨s.toArray⟩ c (i : Int)
  rw [len_mk, fromIndex_nat] at z
  have g : ∀ v, v < s.length → (s.getD v 0 = c ↔ s[v]? = some c) := fun v hv => by
    rw [List.getD_eq_getElem?_getD, List.getElem?_eq_getElem hv]
    exact ⟨fun h => by rw [← h]; rfl, fun h => Option.some.inj h⟩
  rcases z with ⟨h1, h2⟩ | ⟨k, h1, h2, h3, h4, h5⟩
  · refine .inl ⟨h1, fun j hj hc => ?_⟩
    have hl := (List.getElem?_eq_some_iff.mp hc).1
    have := h2 j hj hl
    rw [getD_mk] at this
    exact this ((g j hl).mpr hc)
  · rw [getD_mk] at h4
    refine .inr ⟨k, h1, h2, (g k h3).mp h4, fun j hj hk hc => ?_⟩
    have hl := (List.getElem?_eq_some_iff.mp hc).1
    have := h5 j hj hk
    rw [getD_mk] at this
    exact this ((g j hl).mpr hc)
theorem rfind4N (s : List Nat) (c j : Nat) (hj : j ≤ s.length) : (Txt.rfindIn ⟨s.toArray⟩ ⟨[c].toArray⟩ 0 (j : Int) = -1 ∧ ∀ i, i < j → s[i]? ≠ some c) ∨ ∃ k : Nat, Txt.rfindIn ⟨s.toArray⟩ ⟨[c].toArray⟩ 0 (j : Int) = (k : Int) ∧ k < j ∧ s[k]? = some c ∧ ∀ i, k < i → i < j → s[i]? ≠ some c := by
  unfold Txt.rfindIn
  have e1 : fromIndex (⟨s.toArray⟩ : Str).length 0 = 0 := fromIndex_nat _ 0
  have e2 : toIndexW (⟨s.toArray⟩ : Str).length (j : Int) = j := by
    unfold toIndexW
    rw [len_mk, if_neg (by omega), Int.max_eq_right (by omega), Int.toNat_natCast]
    omega
  rw [e1, e2, PySem.StrLaws.last_eq]
  have key := PySem.StrLaws.last_run ⟨s.toArray⟩ ⟨[c].toArray⟩ j (List.range' 0 (j + 1 - 0)) [] none (fun _ h => nomatch h) (fun _ h => nomatch h) (by simpa using List.pairwise_lt_range' (s := 0) (n := j + 1 - 0))
  have at1 : ∀ i, PySem.StrLaws.At ⟨s.toArray⟩ ⟨[c].toArray⟩ j i ↔ i < j ∧ s[i]? = some c := fun i => by
    have z := PySem.StrLaws.subAt_one ⟨s.toArray⟩ c i
    unfold PySem.StrLaws.At at z ⊢
    have z1 : (⟨[c].toArray⟩ : Str).length = 1 := rfl
    rw [z1]
    simp only [len_mk, List.length_singleton] at z
    constructor
    · rintro ⟨h1, h2⟩
      exact ⟨by omega, z.mp ⟨by omega, h2⟩⟩
    · rintro ⟨h1, h2⟩
      exact ⟨by omega, (z.mpr h2).2⟩
  have mem : ∀ i, i < j → i ∈ [] ++ List.range' 0 (j + 1 - 0) := fun i hi => by simp [List.mem_range'] <;> omega
  cases hr : (forIn (List.range' 0 (j + 1 - 0)) none (PySem.StrLaws.lastBody ⟨s.toArray⟩ ⟨[c].toArray⟩ j)).run with
  | none =>
    rw [hr] at key
    exact .inl ⟨rfl, fun i hi hc => key i (mem i hi) ((at1 i).mpr ⟨hi, hc⟩)⟩
  | some a =>
    rw [hr] at key
    obtain ⟨h1, h2⟩ := (at1 a).mp key.1
    exact .inr ⟨a, rfl, h1, h2, fun i hi hk hc => key.2 i (mem i hk) hi ((at1 i).mpr ⟨hk, hc⟩)⟩

section
variable {Γ : Wd} {X : Cx} {B : Bs} {e a b c o tg it elt : Expr} {es ifs tgs : List Expr} {st : Stmt} {sts body : List Stmt} {ρ ρ' : List Sl} {S : Sto} {N : List Str} {nm nmb : List (Str × NameKind)} {k j : Nat} {E : EK} {pos p p2 apos cpos px pl : Pos} {scope : Scope} {own : List (Str × Nat)}
variable {F H F' H' : Hp} {Q : D → Sto → Prop} {QB : Bool → Sto → Prop} {QA : List D → Sto → Prop} {Dd : Dn} {x m : Str} {Φ : FnS} {i : Nat} {R : D → Sto → Prop} {f : Sl → List Sl}

theorem min2N {i j : Nat} (G : Gd Γ X N nm k B E) : BltR Γ X (.builtin "min") [.int (i : Int), .int (j : Int)] (.int ((min i j : Nat) : Int)) := by
  have z := min2 (Γ := Γ) (i := (i : Int)) (j := (j : Int)) G
  rwa [show min (i : Int) (j : Int) = ((min i j : Nat) : Int) by omega] at z
theorem max2N {i j : Nat} (G : Gd Γ X N nm k B E) : BltR Γ X (.builtin "max") [.int (i : Int), .int (j : Int)] (.int ((max i j : Nat) : Int)) := by
  have z := max2 (Γ := Γ) (i := (i : Int)) (j := (j : Int)) G
  rwa [show max (i : Int) (j : Int) = ((max i j : Nat) : Int) by omega] at z
theorem fldO {C : Addr} {fs : List (Str × D)} {f : Str} {d : D} {Q : D → Prop} (h : Fld Γ C f) (hl : fs.lookup f = some d) (q : Q d) : ∃ C' fs' d', ((∃ a, D.obj C fs = .ref a ∧ S a = some (.ins C' fs')) ∨ D.obj C fs = .obj C' fs') ∧ Fld Γ C' f ∧ fs'.lookup f = some d' ∧ Q d' :=
  ⟨C, fs, d, .inr rfl, h, hl, q⟩
theorem fldR {C p : Addr} {fs : List (Str × D)} {f : Str} {d : D} {Q : D → Prop} (hS : S p = some (.ins C fs)) (h : Fld Γ C f) (hl : fs.lookup f = some d) (q : Q d) : ∃ C' fs' d', ((∃ a, D.ref p = .ref a ∧ S a = some (.ins C' fs')) ∨ D.ref p = .obj C' fs') ∧ Fld Γ C' f ∧ fs'.lookup f = some d' ∧ Q d' :=
  ⟨C, fs, d, .inl ⟨p, rfl, hS⟩, h, hl, q⟩
theorem put2S {q : Addr} {u v : Ob} (h : wSs Γ X B sts ρ (put S q v) Dd) : wSs Γ X B sts ρ (put (put S q u) q v) Dd := by rw [put_put]; exact h
theorem put2s {q : Addr} {u v : Ob} (h : wS Γ X B st ρ (put S q v) Dd) : wS Γ X B st ρ (put (put S q u) q v) Dd := by rw [put_put]; exact h
theorem put2E {q : Addr} {u v : Ob} (h : wE Γ X B e ρ (put S q v) Q) : wE Γ X B e ρ (put (put S q u) q v) Q := by rw [put_put]; exact h
theorem put2T {q : Addr} {u v : Ob} (h : wT Γ X B e ρ (put S q v) QB) : wT Γ X B e ρ (put (put S q u) q v) QB := by rw [put_put]; exact h
theorem put2A {q : Addr} {u v : Ob} (h : wA Γ X B es ρ (put S q v) QA) : wA Γ X B es ρ (put (put S q u) q v) QA := by rw [put_put]; exact h

theorem copyL {xs : List D} (G : Gd Γ X N nm k B E) : BltR Γ X (.type "list") [.lst xs] (.lst xs) := ⟨_, call_list_of, fun S F H vs Qv A r q => by
  cases r with
  | cons r1 rr =>
    cases rr
    cases r1 with
    | lst h1 r1 =>
      refine ⟨_, _, rfl, .inl (SqL.of (A.ex _ _ h1)), fun p hp => ?_⟩
      exact q _ _ _ (A.frozen hp) (A.g_frozen hp) (.lst upd_same (r1.mono (Evl.Ex.new (A.fnone hp))))⟩
theorem cutD_le {s : List D} {a b : Nat} (h : a ≤ b) (h2 : b ≤ s.length) : cutD s (some (a : Int)) (some (b : Int)) = (s.drop a).take (b - a) := by
  unfold cutD
  rw [HT.sIx_nat, HT.sIx_nat, show min a s.length = a by omega, show min b s.length = b by omega]
theorem cutD_nat {s : List D} {a b : Nat} : cutD s (some (a : Int)) (some (b : Int)) = (s.drop (min a s.length)).take (min b s.length - min a s.length) := by
  unfold cutD
  rw [HT.sIx_nat, HT.sIx_nat]
theorem cutD_win {s : List D} {a n : Nat} : cutD s (some (a : Int)) (some ((a + n : Nat) : Int)) = (s.drop a).take n := by
  rw [cutD_nat]
  by_cases h : a ≤ s.length
  · rw [show min a s.length = a by omega]
    apply List.ext_getElem?
    intro i
    rw [List.getElem?_take, List.getElem?_take, List.getElem?_drop]
    by_cases h1 : i < n
    · rw [if_pos h1]
      by_cases h2 : a + i < s.length
      · rw [if_pos (by omega)]
      · rw [List.getElem?_eq_none (by omega)]
        split <;> rfl
    · rw [if_neg h1, if_neg (by omega)]
  · rw [List.drop_eq_nil_of_le (by omega), List.drop_eq_nil_of_le (by omega)]
    simp
theorem slcLn {s : List D} {a n : Nat} (G : Gd Γ X N nm k B E) : SlcR Γ X (.lst s) (some (a : Int)) (some ((a + n : Nat) : Int)) (.lst ((s.drop a).take n)) := by
  have := slcL (Γ := Γ) (X := X) (xs := s) (lo := some (a : Int)) (hi := some ((a + n : Nat) : Int)) G
  rwa [cutD_win] at this
/-- a slice of a text between two places -/
theorem slcN {s : List Nat} {a b : Nat} (h : a ≤ b) (h2 : b ≤ s.length) (hs : s.length ≤ 100000) : SlcR Γ X (.str s) (some (a : Int)) (some (b : Int)) (.str (seg s a b)) := by
  have := slcS (Γ := Γ) (X := X) (lo := some (a : Int)) (hi := some (b : Int)) hs
  rwa [cutN_le h h2] at this

theorem wG_set (G : Gd Γ X N nm k B E) {bh : Hp} {y : D} (hu : UpF N x ρ f) (hx : Kd nm x .local) (hi : ∀ i, N[i]? = some x → i ∈ own.map (·.2)) : wG Γ X bh (.Name x pos) (own.map (·.2)) y ρ (f (.val y)) :=
  gN G hu hx fun i h j hj z => hj (z ▸ hi i h)
theorem ix_of {i : Nat} (nd : N.Nodup) (h : N[i]? = some x) (hm : i ∈ own.map (·.2)) : ∀ j, N[j]? = some x → j ∈ own.map (·.2) := fun j hj => by
  rw [← nodup_ix nd h hj]
  exact hm
/-- [elt for x in it] over things g y -/
theorem lcM1 {α : Type} {xs : List α} {g h : α → D} {i : Nat} (hnb : nmB scope nm = nmb) (hw : wipeS ρ (own.map (·.2)) = ρ) (hi : N[i]? = some x) (hm : i ∈ own.map (·.2)) (hu : UpF N x ρ f) (hx : Kd nmb x .local) (hl : xs.length ≤ 100000)
    (he : ∀ y ∈ xs, ∀ Xb, Gd Γ Xb N nmb k B EN → pE Γ Xb B elt (f (.val (g y))) S (h y)) (q : Q (.lst (xs.map h)) S) : LcQ Γ B N nm k elt (.Name x pos) [] scope own ρ Q (xs.map g) S :=
  lcM hnb hl (fun y => f (.val (g y))) (fun y hy Xb Gb => by rw [hw]; exact wG_set Gb hu hx (ix_of Gb.nd hi hm)) he q
/-- .. with a test -/
theorem lcP1 {α : Type} {xs : List α} {g h : α → D} {pr : α → Bool} {t : Expr} {i : Nat} (hnb : nmB scope nm = nmb) (hw : wipeS ρ (own.map (·.2)) = ρ) (hi : N[i]? = some x) (hm : i ∈ own.map (·.2)) (hu : UpF N x ρ f) (hx : Kd nmb x .local) (hl : xs.length ≤ 100000)
    (ht : ∀ y ∈ xs, ∀ Xb, Gd Γ Xb N nmb k B EN → pT Γ Xb B t (f (.val (g y))) S (pr y))
    (he : ∀ y ∈ xs, pr y = true → ∀ Xb, Gd Γ Xb N nmb k B EN → pE Γ Xb B elt (f (.val (g y))) S (h y)) (q : Q (.lst ((xs.filter pr).map h)) S) : LcQ Γ B N nm k elt (.Name x pos) [t] scope own ρ Q (xs.map g) S :=
  lcP hnb hl (fun y => f (.val (g y))) (fun y hy Xb Gb => by rw [hw]; exact wG_set Gb hu hx (ix_of Gb.nd hi hm)) (fun y hy Xb Gb QB q => wTs_one (ht y hy Xb Gb QB q)) he q
/-- .. whose parts change the store -/
theorem lcS1 {α : Type} {xs : List α} {g h : α → D} {i : Nat} (I : List α → Sto → Prop) (hnb : nmB scope nm = nmb) (hw : wipeS ρ (own.map (·.2)) = ρ) (hi : N[i]? = some x) (hm : i ∈ own.map (·.2)) (hu : UpF N x ρ f) (hx : Kd nmb x .local) (hl : xs.length ≤ 100000) (h0 : I [] S)
    (he : ∀ y pre post, xs = pre ++ y :: post → ∀ S', I pre S' → ∀ Xb, Gd Γ Xb N nmb k B EN → wE Γ Xb B elt (f (.val (g y))) S' fun d S2 => d = h y ∧ I (pre ++ [y]) S2) (q : ∀ S', I xs S' → Q (.lst (xs.map h)) S') : LcQ Γ B N nm k elt (.Name x pos) [] scope own ρ Q (xs.map g) S :=
  lcS I hnb hl (fun y => f (.val (g y))) (fun y hy Xb Gb => by rw [hw]; exact wG_set Gb hu hx (ix_of Gb.nd hi hm)) h0 he q
/-- .. whose values are only known as they come -/
theorem lcV1 {α : Type} {xs : List α} {g : α → D} {i : Nat} (I : List α → List D → Sto → Prop) (hnb : nmB scope nm = nmb) (hw : wipeS ρ (own.map (·.2)) = ρ) (hi : N[i]? = some x) (hm : i ∈ own.map (·.2)) (hu : UpF N x ρ f) (hx : Kd nmb x .local) (hl : xs.length ≤ 100000) (h0 : I [] [] S)
    (he : ∀ y pre post acc, xs = pre ++ y :: post → ∀ S', I pre acc S' → ∀ Xb, Gd Γ Xb N nmb k B EN → wE Γ Xb B elt (f (.val (g y))) S' fun d S2 => I (pre ++ [y]) (acc ++ [d]) S2) (q : ∀ acc S', I xs acc S' → Q (.lst acc) S') : LcQ Γ B N nm k elt (.Name x pos) [] scope own ρ Q (xs.map g) S := by
  subst hnb
  refine ⟨by rw [List.length_map]; exact hl, fun ds acc S' => ∃ pre post, xs = pre ++ post ∧ ds = post.map g ∧ I pre acc S', ⟨[], xs, rfl, rfl, h0⟩, fun d rest acc S' ⟨pre, post, e1, e2, hI⟩ => ?_, fun acc S' ⟨pre, post, e1, e2, hI⟩ => ?_⟩
  · cases post with
    | nil => cases e2
    | cons y post =>
      rw [List.map_cons] at e2
      obtain ⟨e4, e5⟩ := List.cons.inj e2
      subst e4 e5
      refine ⟨f (.val (g y)), fun Xb Gb => by rw [hw]; exact wG_set Gb hu hx (ix_of Gb.nd hi hm), fun Xb Gb => wTs_nil ⟨fun _ Xb Gb => ?_, fun z => Bool.noConfusion z⟩⟩
      exact (he y pre post acc e1 S' hI Xb Gb).mono fun d S2 hI2 => ⟨pre ++ [y], post, by rw [e1]; simp, rfl, hI2⟩
  · cases post with
    | cons y post => cases e2
    | nil =>
      rw [List.append_nil] at e1
      subst e1
      exact q acc S' hI

def joinT (c : List Nat) : List (List Nat) → List Nat
  | [] => []
  | [p] => p
  | p :: q :: r => p ++ c ++ joinT c (q :: r)
theorem joinS_eq (c : List Nat) : ∀ ts : List (List Nat), Str.join ⟨c.toArray⟩ (ts.map fun t => ⟨t.toArray⟩) = ⟨(joinT c ts).toArray⟩
  | [] => rfl
  | [p] => rfl
  | p :: q :: r => by
    have ih := joinS_eq c (q :: r)
    show ((⟨p.toArray⟩ : Str) ++ ⟨c.toArray⟩ ++ Str.join ⟨c.toArray⟩ ((q :: r).map fun t => ⟨t.toArray⟩)) = ⟨(p ++ c ++ joinT c (q :: r)).toArray⟩
    rw [ih, str_app, str_app]
theorem joinT_eq (c : List Nat) (ts : List (List Nat)) : Txt.join ⟨c.toArray⟩ (ts.map fun t => ⟨t.toArray⟩) = ⟨(joinT c ts).toArray⟩ := by
  rw [← joinS_eq]
  exact PySem.StrLaws.glued_eq_join _ _
theorem joinD {c : List Nat} {ts : List (List Nat)} (G : Gd Γ X N nm k B E) (h : (ts.map List.length).sum + ts.length * c.length ≤ 100000) : MtdR Γ X "str.join" (.str c) [.lst (ts.map .str)] (.str (joinT c ts)) := ⟨_, mt_join, fun S F H x vs Qv A rx rxs q => by
  cases rxs with
  | cons ru rr =>
    cases rr
    cases rx
    cases ru with
    | lst h2 r2 =>
      have e := r2.strs
      refine ⟨_, _, ts.map fun t => ⟨t.toArray⟩, rfl, rfl, .inl (SqL.of (A.ex _ _ (by rw [h2, e, List.map_map]; rfl))), ?_, ?_⟩
      · rw [List.map_map, List.length_map]
        have e2 : ((fun z : Str => z.length) ∘ fun t : List Nat => (⟨t.toArray⟩ : Str)) = List.length := by
          funext t
          exact len_mk t
        have e3 : (⟨c.toArray⟩ : Str).length = c.length := len_mk c
        rw [e2, e3]
        omega
      · rw [joinT_eq]
        exact q _ F H A (Grow.refl S F H) (.str _)⟩
end
end CR

end

section
namespace CR
open PySem PySem.Spec PyProof.Rows L2

def valD (kvs : List (Key × D)) (k : Key) : Option D := (kvs.find? fun kv => decide (kv.1 = k)).map (·.2)
def putKD (kvs : List (Key × D)) (k : Key) (d : D) : List (Key × D) := if kvs.any (fun kv => decide (kv.1 = k)) = true then kvs.map fun kv => if kv.1 = k then (kv.1, d) else kv else kvs ++ [(k, d)]
section
variable {K : PySem.W.Frag} {F : Hp}
theorem RepK.val {k : Key} : ∀ {vs : List (Key × V)} {ds : List (Key × D)}, RepK K F vs ds → ∀ d, valD ds k = some d → ∃ v, valV vs k = some v ∧ Rep K F v d
  | _, _, .nil, d, e => by cases e
  | _, _, .cons (x := x) (v := v) (d := d0) h r, d, e => by
    unfold valD at e
    rw [List.find?_cons] at e
    by_cases hk : x = k
    · rw [decide_eq_true (show (x, d0).1 = k from hk)] at e
      have e2 : d0 = d := Option.some.inj e
      subst e2
      exact ⟨v, valV_pos hk, h⟩
    · rw [decide_eq_false (show ¬ (x, d0).1 = k from hk)] at e
      obtain ⟨u, h1, h2⟩ := RepK.val r d e
      exact ⟨u, by rw [valV_neg hk]; exact h1, h2⟩
theorem RepK.any {k : Key} : ∀ {vs : List (Key × V)} {ds : List (Key × D)}, RepK K F vs ds → (vs.any fun kv => decide (kv.1 = k)) = ds.any fun kv => decide (kv.1 = k)
  | _, _, .nil => rfl
  | _, _, .cons (x := x) h r => by rw [List.any_cons, List.any_cons, RepK.any r]
theorem RepK.append : ∀ {v w : List (Key × V)} {d e : List (Key × D)}, RepK K F v d → RepK K F w e → RepK K F (v ++ w) (d ++ e)
  | _, _, _, _, .nil, s => s
  | _, _, _, _, .cons h r, s => .cons h (RepK.append r s)
theorem RepK.repl {k : Key} {x : V} {y : D} (q : Rep K F x y) : ∀ {vs : List (Key × V)} {ds : List (Key × D)}, RepK K F vs ds → RepK K F (vs.map fun kv => if kv.1 = k then (kv.1, x) else kv) (ds.map fun kv => if kv.1 = k then (kv.1, y) else kv)
  | _, _, .nil => .nil
  | _, _, .cons (x := z) h r => by
    rw [List.map_cons, List.map_cons]
    by_cases hk : z = k
    · rw [if_pos hk, if_pos hk]
      exact .cons q (RepK.repl q r)
    · rw [if_neg hk, if_neg hk]
      exact .cons h (RepK.repl q r)
theorem RepK.put {k : Key} {x : V} {y : D} (q : Rep K F x y) {vs : List (Key × V)} {ds : List (Key × D)} (r : RepK K F vs ds) : RepK K F (putK vs k x) (putKD ds k y) := by
  unfold putK putKD
  rw [r.any]
  split
  · exact r.repl q
  · exact r.append (.cons q .nil)
theorem RepK.length : ∀ {vs : List (Key × V)} {ds : List (Key × D)}, RepK K F vs ds → vs.length = ds.length
  | _, _, .nil => rfl
  | _, _, .cons h r => by rw [List.length_cons, List.length_cons, RepK.length r]
theorem RepK.keys : ∀ {vs : List (Key × V)} {ds : List (Key × D)}, RepK K F vs ds → vs.map (·.1) = ds.map (·.1)
  | _, _, .nil => rfl
  | _, _, .cons h r => by rw [List.map_cons, List.map_cons, RepK.keys r]
end
/-- a datum that is a key -/
def keyD : Key → D
  | .inl i => .int i
  | .inr s => .str s.cps.toList
theorem keyD_v {K : PySem.W.Frag} {F : Hp} {v : V} {k : Key} (r : Rep K F v (keyD k)) : v = kV k := by
  cases k with
  | inl i => cases r; rfl
  | inr s =>
    cases r
    show V.str _ = V.str s
    rw [Array.toArray_toList]
section
variable {Γ : Wd} {X : Cx} {B : Bs} {e a b c o tg it elt : Expr} {es ifs tgs : List Expr} {st : Stmt} {sts body : List Stmt} {ρ ρ' : List Sl} {S : Sto} {N : List Str} {nm nmb : List (Str × NameKind)} {k j : Nat} {E : EK} {pos p p2 apos cpos px pl : Pos} {scope : Scope} {own : List (Str × Nat)}
variable {F H F' H' : Hp} {Q : D → Sto → Prop} {QB : Bool → Sto → Prop} {QA : List D → Sto → Prop} {Dd : Dn} {x m : Str} {Φ : FnS} {i : Nat} {R : D → Sto → Prop} {f : Sl → List Sl}
theorem Ab.at_dct {K : PySem.W.Frag} {q : Addr} {kvs : List (Key × D)} (A : Ab K S F H) (h : S q = some (.dct kvs)) : F q = none ∧ ∃ vs, H q = some (.dK vs) ∧ RepK K F vs kvs := ⟨(A.st q _ h).1, (A.st q _ h).2⟩
/-- d[e], d a dict of the store -/
theorem wE_dget (G : Gd Γ X N nm k B E) (h : wE Γ X B a ρ S fun y S1 => wE Γ X B b ρ S1 fun z S2 => ∃ q kvs kk d, y = .ref q ∧ S2 q = some (.dct kvs) ∧ z = keyD kk ∧ valD kvs kk = some d ∧ Q d S2) (hs : NoSl b := by intro _ _; rfl) : wE Γ X B (.Subscript a b pos) ρ S Q := .mk fun F H σ c => by
  have hu : X.A.units + 1 < cLine := hu_of G.room
  refine (pe_dget hu pe_w pe_w hs).tw ((h.run F H σ c).mono fun v H1 ⟨F1, y, S1, A1, g1, r1, h1⟩ => ?_)
  refine (h1.run F1 H1 σ (c.grow A1 g1)).mono fun u H2 ⟨F2, z, S2, A2, g2, r2, q, kvs, kk, d, e1, e2, e3, e4, hq⟩ => ?_
  subst e1 e3
  cases r1
  obtain ⟨hf, vs, hH, rk⟩ := A2.at_dct e2
  obtain ⟨w, hw, rw_⟩ := rk.val d e4
  rw [keyD_v r2]
  have dg := DGet.k (k := kk) hH
  rw [hw] at dg
  exact ⟨q, w, rfl, dg, F2, d, S2, A2, g1.trans g2, rw_, hq⟩
/-- d[e] = v -/
theorem sDictW {pos' : Pos} (G : Gd Γ X N nm k B E) (h : wE Γ X B e ρ S fun v S1 => wE Γ X B a ρ S1 fun y S2 => wE Γ X B b ρ S2 fun z S3 => ∃ q kvs kk, y = .ref q ∧ S3 q = some (.dct kvs) ∧ z = keyD kk ∧ kvs.length < 1000 ∧ Dd.nx ρ (put S3 q (.dct (putKD kvs kk v))))
    (hs : swapsWith e (some (.Subscript a b pos')) pos.line X.env = pure false := by rfl) : wS Γ X B (.Assign [.Subscript a b pos'] e pos) ρ S Dd := .mk fun F H σ c => by
  have hu : X.A.units + 1 < cLine := hu_of G.room
  refine (ps_dput hu pe_w pe_w pe_w hs).tw ((h.run F H σ c).mono fun v H1 ⟨F1, d, S1, A1, g1, r1, h1⟩ => ?_)
  have c1 := c.grow A1 g1
  refine (h1.run F1 H1 σ c1).mono fun u H2 ⟨F2, y, S2, A2, g2, r2, h2⟩ => ?_
  have c2 := c1.grow A2 g2
  refine (h2.run F2 H2 σ c2).mono fun w H3 ⟨F3, z, S3, A3, g3, r3, q, kvs, kk, e1, e2, e3, e4, nx⟩ => ?_
  subst e1 e3
  cases r2
  have c3 := c2.grow A3 g3
  obtain ⟨hf, vs, hH, rk⟩ := A3.at_dct e2
  rw [keyD_v r3]
  refine ⟨q, _, rfl, DPut.k (v := v) hH (by rw [rk.length]; exact Nat.lt_of_lt_of_le e4 (by decide)), ?_⟩
  have g4 := A3.g_write (o := .dK (putK vs kk v)) (u' := .dct (putKD kvs kk d)) e2
  have A4 := A3.write (o := .dK (putK vs kk v)) (u' := .dct (putKD kvs kk d)) e2 ⟨_, upd_same, RepK.put ((r1.mono g2.ex).mono g3.ex) rk⟩
  exact ⟨ρ, _, F3, c3.grow A4 g4, g1.ex.trans (g2.ex.trans (g3.ex.trans g4.ex)), nx⟩
/-- what an expression leaves in the store, and nobody knows of, is forgotten -/
theorem eDrop (h : wE Γ X B e ρ S fun d S1 => ∃ q o S2, S q = none ∧ S2 q = none ∧ S1 = put S2 q o ∧ Q d S2) : wE Γ X B e ρ S Q := .mk fun F H σ c => by
  refine (h.run F H σ c).mono fun v H1 ⟨F1, d, S1, A1, g1, r1, q, o, S2, h1, h2, h3, hq⟩ => ?_
  subst h3
  have ne : ∀ a u, S2 a = some u → a ≠ q := fun a u z e => by
    rw [e, h2] at z
    cases z
  refine ⟨F1, d, S2, ⟨A1.ex, fun a u z => A1.st a u (by rw [put_ne (ne a u z)]; exact z)⟩, ⟨g1.ex, g1.fr, g1.nf, fun a o' z n => ?_, g1.th⟩, r1, hq⟩
  have w := g1.ns a o' z n
  by_cases e : a = q
  · rw [e]; exact h2
  · rw [put_ne e] at w; exact w
/-- the pairs of a display -/
def mergeKD (kvs more : List (Key × D)) : List (Key × D) := more.foldl (fun acc kv => putKD acc kv.1 kv.2) kvs
theorem RepK.merge {K : PySem.W.Frag} {F : Hp} : ∀ {more : List (Key × V)} {ds : List (Key × D)} {kvs : List (Key × V)} {es : List (Key × D)}, RepK K F more ds → RepK K F kvs es → RepK K F (mergeK kvs more) (mergeKD es ds)
  | _, _, _, _, .nil, r => r
  | _, _, kvs, es, .cons (x := x) (v := v) (vs := vs) (d := d) (ds := ds) h t, r => by
    show RepK K F (mergeK (putK kvs x v) vs) (mergeKD (putKD es x d) ds)
    exact RepK.merge t (RepK.put (k := x) h r)
def wPP0 (Γ : Wd) (X : Cx) (B : Bs) (ρ : List Sl) : List (Expr × Expr) → Sto → (List (Key × D) → Sto → Prop) → Prop
  | [], S, Q => Q [] S
  | kv :: r, S, Q => wE Γ X B kv.1 ρ S fun z S1 => wE Γ X B kv.2 ρ S1 fun d S2 => ∃ kk, z = keyD kk ∧ wPP0 Γ X B ρ r S2 fun kvs S3 => Q ((kk, d) :: kvs) S3
def ppT (X : Cx) (l : List (Expr × Expr)) : List (TE × TE) := l.map fun kv => (tW X kv.1, tW X kv.2)
theorem pps_w {X : Cx} {pos : Pos} : ∀ (l : List (Expr × Expr)), PPs X pos (l.map fun kv => some kv.1) (l.map (·.2)) (ppT X l)
  | [] => pps_nil
  | kv :: l => pps_cons pe_w pe_w (pps_w l)
theorem wPP_run {σ : L2.St} : ∀ (l : List (Expr × Expr)) {S : Sto} {F H : Hp} {QK : List (Key × D) → Sto → Prop} {QR : List (V × V) → Hp → Prop}, wPP0 Γ X B ρ l S QK → Cf Γ B F H σ ρ S →
    (∀ kvs ds S' F' H', Ab Γ.K S' F' H' → Grow S F H S' F' H' → RepK Γ.K F' kvs ds → QK ds S' → QR (kvs.map fun kv => (kV kv.1, kv.2)) H') → tPairs (ppT X l) σ H QR
  | [], S, F, H, QK, QR, h, c, hq => hq [] [] S F H c.1 (Grow.refl S F H) .nil h
  | kv :: l, S, F, H, QK, QR, h, c, hq => by
    have h0 : wE Γ X B kv.1 ρ S fun z S1 => wE Γ X B kv.2 ρ S1 fun d S2 => ∃ kk, z = keyD kk ∧ wPP0 Γ X B ρ l S2 fun kvs S3 => QK ((kk, d) :: kvs) S3 := h
    show tW X kv.1 σ H fun x H1 => tW X kv.2 σ H1 fun y H2 => tPairs (ppT X l) σ H2 fun ps H3 => QR ((x, y) :: ps) H3
    refine (h0.run F H σ c).mono fun x H1 ⟨F1, z, S1, A1, g1, r1, h1⟩ => ?_
    have c1 := c.grow A1 g1
    refine (h1.run F1 H1 σ c1).mono fun y H2 ⟨F2, d, S2, A2, g2, r2, kk, e, h2⟩ => ?_
    subst e
    refine wPP_run l h2 (c1.grow A2 g2) fun kvs ds S' F' H' A' g' rk q => ?_
    have z := hq ((kk, y) :: kvs) ((kk, d) :: ds) S' F' H' A' ((g1.trans g2).trans g') (.cons (r2.mono g'.ex) rk) q
    rw [keyD_v r1]
    exact z
structure wPP (Γ : Wd) (X : Cx) (B : Bs) (ρ : List Sl) (l : List (Expr × Expr)) (S : Sto) (Q : List (Key × D) → Sto → Prop) : Prop where
  ex : wPP0 Γ X B ρ l S Q
/-- {k: v, ..}, a new dict of the store -/
theorem wE_disp {ks : List (Option Expr)} {vs : List Expr} (l : List (Expr × Expr)) (h : wPP Γ X B ρ l S fun kvs S1 => kvs.length ≤ 15 ∧ ∀ q, S q = none → S1 q = none → Q (.ref q) (put S1 q (.dct (mergeKD [] kvs)))) (hk : ks = l.map (fun kv => some kv.1) := by rfl) (hv : vs = l.map (·.2) := by rfl) (h0 : l ≠ [] := by exact List.cons_ne_nil _ _) (h15 : l.length ≤ 15 := by decide) : wE Γ X B (.Dict ks vs pos) ρ S Q := .mk fun F H σ c => by
  subst hk hv
  refine (pe_disp (pps_w l) (by rw [List.all_map]; exact List.all_eq_true.mpr fun _ _ => rfl) (by rw [List.length_map, List.length_map]) (fun z => h0 (List.map_eq_nil_iff.mp z)) (by rw [List.length_map]; exact h15)).tw fun p hp => ?_
  have A1 := c.1.loose (o := .dK []) hp
  have g1 := c.1.g_loose (o := .dK []) hp
  have sp := c.1.snone hp
  have fp := c.1.fnone hp
  refine wPP_run l h.ex (c.grow A1 g1) fun kvs ds S' F' H' A' g' rk ⟨h5, q⟩ => ?_
  have e1 := g'.fr _ _ upd_same sp
  have e2 := g'.nf _ _ upd_same fp
  have e3 := g'.ns _ _ upd_same sp
  refine ⟨e1, kvs, rfl, by rw [rk.length]; exact h5, ?_⟩
  have g3 := g1.trans g'
  have er : RepK Γ.K F' (mergeK [] kvs) (mergeKD [] ds) := RepK.merge rk .nil
  refine ⟨F', .ref p, put S' p (.dct (mergeKD [] ds)), ⟨fun a u z => ?_, fun a u z => ?_⟩, ⟨g3.ex, fun a u z n => ?_, g3.nf, fun a u z n => ?_, fun a u z => ?_⟩, .ref p, q p sp e3⟩
  · have ne : a ≠ p := fun w => by rw [w, e2] at z; cases z
    rw [upd_ne ne]
    exact A'.ex a u z
  · by_cases w : a = p
    · subst w
      rw [put_same] at z
      have z2 := Option.some.inj z
      subst z2
      exact ⟨e2, _, upd_same, er⟩
    · rw [put_ne w] at z
      exact ⟨(A'.st a u z).1, (A'.st a u z).2.mono (Evl.Ex.refl F') (upd_ne w)⟩
  · rw [upd_ne (ne_of_none z hp)]
    exact g3.fr a u z n
  · rw [put_ne (ne_of_none z hp)]
    exact g3.ns a u z n
  · obtain ⟨o', w⟩ := g3.th a u z
    exact ⟨o', by rw [upd_ne (ne_of_none z hp)]; exact w⟩
theorem wPP_nil {QK : List (Key × D) → Sto → Prop} (h : QK [] S) : wPP Γ X B ρ [] S QK := ⟨h⟩
theorem wPP_s {z : Str} {jj : Nat} {pk : Pos} {v : Expr} {l : List (Expr × Expr)} {QK : List (Key × D) → Sto → Prop} (h : wE Γ X B v ρ S fun d S2 => wPP Γ X B ρ l S2 fun kvs S3 => QK ((.inr z, d) :: kvs) S3) :
    wPP Γ X B ρ ((.Constant (.str z) jj pk, v) :: l) S QK := ⟨wE_str (h.mono fun d S2 h2 => ⟨.inr z, rfl, h2.ex⟩)⟩
/-- d["x"] -/
theorem wE_dgetS {z : Str} {jj : Nat} {pk : Pos} (G : Gd Γ X N nm k B E) (h : wE Γ X B a ρ S fun y S1 => ∃ q kvs d, y = .ref q ∧ S1 q = some (.dct kvs) ∧ valD kvs (.inr z) = some d ∧ Q d S1) : wE Γ X B (.Subscript a (.Constant (.str z) jj pk) pos) ρ S Q :=
  wE_dget G (h.mono fun y S1 ⟨q, kvs, d, e1, e2, e3, e4⟩ => wE_str ⟨q, kvs, .inr z, d, e1, e2, rfl, e3, e4⟩)
/-- d["x"] = v -/
theorem sDictWS {z : Str} {jj : Nat} {pk pos' : Pos} (G : Gd Γ X N nm k B E) (h : wE Γ X B e ρ S fun v S1 => wE Γ X B a ρ S1 fun y S2 => ∃ q kvs, y = .ref q ∧ S2 q = some (.dct kvs) ∧ kvs.length < 1000 ∧ Dd.nx ρ (put S2 q (.dct (putKD kvs (.inr z) v))))
    (hs : swapsWith e (some (.Subscript a (.Constant (.str z) jj pk) pos')) pos.line X.env = pure false := by rfl) : wS Γ X B (.Assign [.Subscript a (.Constant (.str z) jj pk) pos'] e pos) ρ S Dd :=
  sDictW G (h.mono fun v S1 h1 => h1.mono fun y S2 ⟨q, kvs, e1, e2, e3, e4⟩ => wE_str ⟨q, kvs, .inr z, e1, e2, rfl, e3, e4⟩) hs
/-- {} -/
theorem wE_dnew (h : ∀ q, S q = none → Q (.ref q) (put S q (.dct []))) : wE Γ X B (.Dict [] [] pos) ρ S Q := .mk fun F H σ c => by
  refine pe_dnewK.tw fun p hp => ?_
  have A2 := (c.1.loose (o := .dK []) hp).take (u := .dct []) ⟨[], upd_same, .nil⟩ (c.1.fnone hp)
  exact ⟨F, _, _, A2, c.1.g_take hp, .ref p, h p (c.1.snone hp)⟩
end
end CR

end

section
namespace CR
open PySem PySem.Spec PyProof.Rows L2
section
variable {Γ : Wd} {X : Cx} {B : Bs} {e : Expr} {es : List Expr} {st : Stmt} {sts : List Stmt} {ρ : List Sl} {S : Sto} {Q : D → Sto → Prop} {QB : Bool → Sto → Prop} {QA : List D → Sto → Prop} {Dd : Dn} {R : D → Sto → Prop}
theorem isE (h : wE Γ X B e ρ S Q) : wE Γ X B e ρ S Q := h
theorem isT (h : wT Γ X B e ρ S QB) : wT Γ X B e ρ S QB := h
theorem isA (h : wA Γ X B es ρ S QA) : wA Γ X B es ρ S QA := h
theorem isS (h : wS Γ X B st ρ S Dd) : wS Γ X B st ρ S Dd := h
theorem isSs (h : wSs Γ X B sts ρ S Dd) : wSs Γ X B sts ρ S Dd := h
theorem isBlt {f : Value} {xs : List D} (h : BltS Γ X f S xs R) : BltS Γ X f S xs R := h
theorem isSub {x y : D} (h : SubS Γ X S x y R) : SubS Γ X S x y R := h
theorem isBin {op : Operator} {x y : D} {P : D → Prop} (h : ∃ z, BinR Γ X op x y z ∧ P z) : ∃ z, BinR Γ X op x y z ∧ P z := h
theorem isCmp {op : CmpOp} {x y : D} {P : Bool → Prop} (h : ∃ z, CmpR Γ X op x y z ∧ P z) : ∃ z, CmpR Γ X op x y z ∧ P z := h
theorem isSlc {x : D} {l u : Option Int} {P : D → Prop} (h : ∃ z, SlcR Γ X x l u z ∧ P z) : ∃ z, SlcR Γ X x l u z ∧ P z := h
end
end CR

end

section
namespace CR
open PySem PySem.Spec PyProof.Rows L2
def tKeysL (te : TE) : TE := fun σ H Q => te σ H fun x H1 => ∃ (d : Addr) (kvs : List (Key × V)), x = .ref d ∧ H1 d = some (.dK kvs) ∧ ∀ l, H1 l = none → Q (.ref l) (upd H1 l (.lst (kvs.map fun kv => kV kv.1)))
section
variable {X : Cx} {e : Expr} {te : TE} {p apos cpos pos : Pos}
theorem pe_listKeys (hc : X.calm = true) (he : PE X e te) (hg : Gl X "list") (hm : X.mg "list" = none) (hv : bootBuiltins "list" = some (.type "list")) (hbase : attributeBase e "keys" X.env (eval e X.env) = eval e X.env := by rfl) (hline : (apos.endLine == cpos.line) = true := by rfl)
    (hs : starEach [.Call (.Attribute e "keys" apos) [] [] cpos] X.env = (false, eval (.Call (.Attribute e "keys" apos) [] [] cpos) X.env) :: starEach [] X.env := by rfl) :
    PE X (.Call (.Name "list" p) [.Call (.Attribute e "keys" apos) [] [] cpos] [] pos) (tKeysL te) := by
  refine ⟨fun pins s σ H Q I hq => ?_⟩
  refine wpAny_Call_Name_kw (ld_blt I hg hm hv ?_)
  refine PyProof.Rows.callWith_type1 ?_ hs rfl
  rw [hs]
  show wpAny _ _ (spliced ((false, eval (.Call (.Attribute e "keys" apos) [] [] cpos) X.env) :: backTo pos (starEach [] X.env))) _ _ s
  refine Calls.spliced_cons ?_
  refine wpAny_Call_method (T := "dict") (id := "dict.keys") hbase rfl hline F.plainAttrs_dict F.slot_dict_keys F.type_dict_keys (thn (he.run pins s σ H _ I hq) fun u s1 ⟨x, H1, I1, rx, d, kvs, ex, hd, q⟩ => ?_)
  subst ex
  obtain rfl : u = Value.ref d := rx
  obtain ⟨hz, hs0, vs, kv, hdo⟩ := I1.hok d _ hd
  obtain ⟨ep, hat⟩ := hdo.dictAt
  have lk : kvs.length = vs.length := Paired.length kv
  have I2 : Inv X pins σ H1 { s1 with heap := s1.heap.push { cls := .type "dict_keys", data := .fields #[.ref d] } } := I1.kept (t' := s1.toks) fun b ob q => Heap.get?_push_of_some _ q
  refine ⟨hdo.typeIs, hdo.mapOf.noDict, ?_⟩
  show wpAny _ _ (callWith cpos (.builtin "dict.keys") [.ref d] [] []) _ X.xe s1
  refine method_meetsIn F.slot_dict_keys F.entry_dict_keys rfl (PySem.evalArgs_none ⟨rfl, hdo.typeIs, F.args_dict_keys_1 _, _, PySem.W.kdl_meets_keys (mixKind X.prog X.w) d hs0, ⟨vs, hdo⟩, ?_⟩)
  refine Calls.spliced_nil ?_
  have ek : (kvs.map fun kv => kV kv.1) = vs.map fun p => kV p.1 := by
    have e := congrArg (List.map kV) (KV.keys kv)
    rw [List.map_map, List.map_map] at e
    exact e
  refine PySem.W.kdl_call (PySem.W.kdl_keys (knd := mixKind X.prog X.w) (r := s1.heap.objs.size) (d := d) (kvs := vs) (ep := ep)) (I1.ok.hd hc) ⟨⟨_, Heap.get?_push_size _ rfl, rfl, rfl⟩, hat.push _⟩ (by rw [← lk]; exact hz) fun h' tk acc c' hk hD hacc => ?_
  have hvv : Vals (vs.map fun p => kV p.1) acc.toList := keys_at (by rw [Array.length_toList]; exact hacc.1) fun j v e => hacc.2 j v (by rw [← Array.getElem?_toList]; exact e)
  exact ⟨.ref _, upd H1 _ (.lst (kvs.map fun kv => kV kv.1)), I2.laid (t' := tk) hk (Nat.le_refl _)
    (show ObjOk X.prog X.w _ _ _ (.lst (kvs.map fun kv => kV kv.1)) from ⟨by rw [List.length_map]; exact hz, acc.toList, c', by rw [ek]; exact hvv, by rw [Array.toArray_toList]; exact hD⟩), rfl, q _ (I2.hok.fresh (Nat.le_refl _))⟩
end
section
variable {Γ : Wd} {X : Cx} {B : Bs} {e a b c o tg it elt : Expr} {ρ ρ' : List Sl} {S : Sto} {N : List Str} {nm nmb : List (Str × NameKind)} {k j : Nat} {E : EK} {pos p p2 apos cpos px pl : Pos}
variable {F H F' H' : Hp} {Q : D → Sto → Prop}
theorem keysRep {K : PySem.W.Frag} {F : Hp} : ∀ {vs : List (Key × V)} {ds : List (Key × D)}, RepK K F vs ds → RepL K F (vs.map fun kv => kV kv.1) (ds.map fun kv => keyD kv.1)
  | _, _, .nil => .nil
  | _, _, .cons (x := x) h r => by
    refine .cons ?_ (keysRep r)
    cases x with
    | inl i => exact .int i
    | inr s =>
      show Rep K F (.str s) (.str s.cps.toList)
      have e2 : s = ⟨s.cps.toList.toArray⟩ := by rw [Array.toArray_toList]
      rw [show (V.str s) = V.str ⟨s.cps.toList.toArray⟩ from congrArg V.str e2]
      exact .str s.cps.toList
/-- list(e.keys()) -/
theorem eListKeys (G : Gd Γ X N nm k B E) (hg : Kd nm "list" .globalImplicit) (hm : Γ.mg ("list" : Str) = none) (h : wE Γ X B e ρ S fun x S1 => ∃ q kvs, x = .ref q ∧ S1 q = some (.dct kvs) ∧ Q (.lst (kvs.map fun kv => keyD kv.1)) S1)
    (hbase : attributeBase e "keys" X.env (eval e X.env) = eval e X.env := by rfl) (hline : (apos.endLine == cpos.line) = true := by rfl)
    (hs : starEach [.Call (.Attribute e "keys" apos) [] [] cpos] X.env = (false, eval (.Call (.Attribute e "keys" apos) [] [] cpos) X.env) :: starEach [] X.env := by rfl) :
    wE Γ X B (.Call (.Name "list" p) [.Call (.Attribute e "keys" apos) [] [] cpos] [] pos) ρ S Q := .mk fun F H σ c => by
  refine (pe_listKeys (te := tW X e) G.calm pe_w (G.gl (hg.lk G.uq)) (by rw [G.hm]; exact hm) (by decide +kernel) hbase hline hs).tw ?_
  refine (h.run F H σ c).mono fun v H1 ⟨F1, d, S1, A1, g1, r1, q, kvs, e1, e2, hq⟩ => ?_
  subst e1
  cases r1
  obtain ⟨hf, vs, hH, rk⟩ := A1.at_dct e2
  refine ⟨q, vs, rfl, hH, fun l hl => ?_⟩
  exact VQ.trans g1 (VQ.new A1 hl (.lst upd_same ((keysRep rk).mono (Evl.Ex.new (A1.fnone hl)))) hq)
end
end CR

end

section
namespace CR
open PySem PySem.Spec PyProof.Rows L2
abbrev pairD (p : Int × Int) : D := .tup [.int p.1, .int p.2]
section
variable {X : Cx} {pins : List (Addr × Obj)} {σ : L2.St} {H : Hp} {s : Shared}
theorem pair_reads (I : Inv X pins σ H s) {F : Hp} (e : Ex F H) {v : V} {u : Value} {p : Int × Int} (r : Rep X.K F v (pairD p)) (ru : RelV v u) : Reads s.heap u (PySem.W.Datum.toD p) [] := by
  cases r with
  | tup h rl =>
    cases rl with
    | cons r1 rl =>
      cases rl with
      | cons r2 rl =>
        cases rl
        cases r1
        cases r2
        obtain rfl : u = _ := ru
        obtain ⟨its, rv, ht, _⟩ := I.tuple (ex_sqt e h)
        cases rv with
        | cons a1 rv =>
          cases rv with
          | cons a2 rv =>
            cases rv
            obtain ⟨t1, rfl⟩ := a1
            obtain ⟨t2, rfl⟩ := a2
            obtain ⟨o, ho, hc, n, hd⟩ := ht
            have := Reads.tuple (h := s.heap) (xs := [.int p.1, .int p.2]) (as := []) ho hc hd (by
              show ReadsAll s.heap [Value.int p.1 t1, Value.int p.2 t2] _ _
              exact .cons (as := []) (bs := []) (.int _ _) (.cons (as := []) (bs := []) (.int _ _) .nil))
            exact this
theorem pairs_hold (I : Inv X pins σ H s) {F : Hp} (e : Ex F H) : ∀ {vs : List V} {us : List Value} {ps : List (Int × Int)}, RepL X.K F vs (ps.map pairD) → Vals vs us → PySem.W.HoldAll s.heap us ps
  | _, _, [], .nil, .nil => PySem.W.HoldAll.nil
  | _, _, p :: ps, .cons r rl, .cons rv rvs => PySem.W.HoldAll.cons ⟨_, pair_reads I e r rv⟩ (pairs_hold I e rl rvs)
end
theorem reads_pair {h : Heap} {v : Value} {p q : Int × Int} {as bs : List Addr} (r1 : Reads h v (PySem.W.Datum.toD p) as) (r2 : Reads h v (PySem.W.Datum.toD q) bs) : p = q := by
  have r1 : Reads h v (.tuple [.int p.1, .int p.2]) as := r1
  have r2 : Reads h v (.tuple [.int q.1, .int q.2]) bs := r2
  cases r1 with
  | tuple h1 h2 h3 a1 =>
    cases r2 with
    | tuple k1 k2 k3 b1 =>
      rw [h1] at k1
      have e := Option.some.inj k1
      subst e
      rw [h3] at k3
      injection k3 with e1 e2
      subst e1
      obtain ⟨p1, p2⟩ := p
      obtain ⟨q1, q2⟩ := q
      generalize Array.toList _ = l at a1 b1
      cases a1 with
      | cons a2 a3 =>
        cases b1 with
        | cons b2 b3 =>
          cases a3 with
          | cons a4 a5 =>
            cases b3 with
            | cons b4 b5 =>
              cases a2
              cases b2
              cases a4
              cases b4
              rfl
def rMinP (K : PySem.W.Frag) : List V → Hp → VK → Prop := fun vs H Q => ∃ (F : Hp) (a : Addr) (xs : List V) (p : Int × Int) (ps : List (Int × Int)), vs = [V.ref a] ∧ Ex F H ∧ SqL K H a xs ∧ RepL K F xs ((p :: ps).map pairD) ∧ (∀ x, x ∈ xs → Rep K F x (pairD (PySem.W.minOf p ps)) → Q x H)
theorem cr_minP {X : Cx} (hc : X.calm = true) (hu : X.A.units + 1 + 2 < cLine) : CallR X (.builtin "min") (rMinP X.K) := by
  intro pins s σ H vs us Q I r h
  obtain ⟨F, a, xs, p, ps, rfl, e, hs, rl, q⟩ := h
  obtain ⟨its, rv, hl, _⟩ := I.list hs
  rw [Vals.ref1 r]
  refine PySem.W.min_list_datum (vs := its.toArray) (x := p) (xs := ps) (I.ok.hd hc) hl.isList (by rw [List.toList_toArray]; exact pairs_hold I e rl rv) (by have e : PySem.W.Datum.depth (Int × Int) ≤ 2 := (by decide); omega) fun i v h' tk hi hh hk => ?_
  have I2 : Inv X pins σ H { s with heap := h', toks := tk } := I.kept (t' := tk) hk
  have hi2 : its[i]? = some v := by simpa using hi
  obtain ⟨x, hx, rx⟩ : ∃ x, xs[i]? = some x ∧ RelV x v := by
    have hl2 := rv.length
    have hi3 := (List.getElem?_eq_some_iff.mp hi2).1
    obtain ⟨u, hu1, hu2⟩ := rv.get (List.getElem?_eq_getElem (by omega : i < xs.length))
    rw [hi2] at hu1
    rw [← Option.some.inj hu1] at hu2
    exact ⟨_, List.getElem?_eq_getElem _, hu2⟩
  have hm : x ∈ xs := List.mem_of_getElem? hx
  obtain ⟨d, hd, rd⟩ := rl.getV hx
  rw [List.getElem?_map] at hd
  cases eq : (p :: ps)[i]? with
  | none => rw [eq] at hd; cases hd
  | some w =>
    rw [eq] at hd
    have hd2 := Option.some.inj hd
    subst hd2
    obtain ⟨as, hr⟩ := hh
    have hr2 := pair_reads I2 e rd rx
    have eu := reads_pair hr2 hr
    rw [eu] at rd
    exact ⟨x, H, I2, rx, q x hm rd⟩
section
variable {Γ : Wd} {X : Cx} {B : Bs} {N : List Str} {nm : List (Str × NameKind)} {k : Nat} {E : EK}
theorem minPairs {p : Int × Int} {ps : List (Int × Int)} (G : Gd Γ X N nm k B E) : BltR Γ X (.builtin "min") [.lst ((p :: ps).map pairD)] (pairD (PySem.W.minOf p ps)) := ⟨_, cr_minP G.calm (by have := G.room.units; omega), fun S F H vs Qv A r q => by
  cases r with
  | cons r1 rr =>
    cases rr
    cases r1 with
    | lst h1 r1 =>
      rw [G.hK]
      refine ⟨F, _, _, p, ps, rfl, A.ex, SqL.of (A.ex _ _ h1), r1, fun x _ rx => ?_⟩
      exact q x F H A (Grow.refl S F H) rx⟩
/-- the least by its first, then by its second -/
theorem minOf_least : ∀ (ps : List (Int × Int)) (p : Int × Int), (PySem.W.minOf p ps = p ∨ PySem.W.minOf p ps ∈ ps) ∧ ∀ q ∈ p :: ps, (PySem.W.minOf p ps).1 < q.1 ∨ (PySem.W.minOf p ps).1 = q.1 ∧ (PySem.W.minOf p ps).2 ≤ q.2
  | [], p => ⟨.inl rfl, fun q hq => by
    rw [List.mem_singleton] at hq
    subst hq
    exact .inr ⟨rfl, Int.le_refl _⟩⟩
  | r :: ps, p => by
    have lt : PySem.W.DatumOrd.lt r p = true ↔ (r.1 < p.1 ∨ r.1 = p.1 ∧ r.2 < p.2) := by
      show ((if r.1 = p.1 then decide (r.2 < p.2) else decide (r.1 < p.1)) = true) ↔ _
      by_cases h : r.1 = p.1
      · rw [if_pos h, decide_eq_true_eq]
        constructor
        · intro z; exact .inr ⟨h, z⟩
        · rintro (z | ⟨_, z⟩)
          · omega
          · exact z
      · rw [if_neg h, decide_eq_true_eq]
        constructor
        · intro z; exact .inl z
        · rintro (z | ⟨z, _⟩)
          · exact z
          · exact absurd z h
    have e : PySem.W.minOf p (r :: ps) = PySem.W.minOf (if PySem.W.DatumOrd.lt r p = true then r else p) ps := rfl
    rw [e]
    by_cases h : PySem.W.DatumOrd.lt r p = true
    · rw [if_pos h]
      obtain ⟨h1, h2⟩ := minOf_least ps r
      have h3 := lt.mp h
      have h4 := h2 r List.mem_cons_self
      refine ⟨.inr (h1.elim (fun z => by rw [z]; exact List.mem_cons_self) fun z => List.mem_cons_of_mem _ z), fun q hq => ?_⟩
      rcases List.mem_cons.mp hq with z | z
      · subst z; omega
      · exact h2 q z
    · rw [if_neg h]
      obtain ⟨h1, h2⟩ := minOf_least ps p
      have h3 : ¬ (r.1 < p.1 ∨ r.1 = p.1 ∧ r.2 < p.2) := fun z => h (lt.mpr z)
      have h4 := h2 p List.mem_cons_self
      refine ⟨h1.imp id fun z => List.mem_cons_of_mem _ z, fun q hq => ?_⟩
      rcases List.mem_cons.mp hq with z | z
      · exact h2 q (by rw [z]; exact List.mem_cons_self)
      · rcases List.mem_cons.mp z with z | z
        · subst z; omega
        · exact h2 q (List.mem_cons_of_mem _ z)
end
end CR

end

section
namespace CR
open PySem PySem.Spec PyProof.Rows L2
theorem rep_strs {K : PySem.W.Frag} {F : Hp} : ∀ zs : List Str, RepL K F ((zs.map He.Dv.str).map (He.Dv.v K)) (zs.map fun z => D.str z.cps.toList)
  | [] => .nil
  | z :: zs => by
    refine .cons ?_ (rep_strs zs)
    show Rep K F (.str z) (.str z.cps.toList)
    have e : z = ⟨z.cps.toList.toArray⟩ := by rw [Array.toArray_toList]
    rw [show (V.str z) = V.str ⟨z.cps.toList.toArray⟩ from congrArg V.str e]
    exact .str z.cps.toList
theorem glv_tup {P : Program} {w : World} {K : PySem.W.Frag} {h : Heap} {mg : Str → Option Value} {base : Heap} (X : K.In h) (G : h.Ns mainGlobals mg) {x : Str} (zs : List Str) (c : (He.Fa.glo x).ok K = true) (c2 : He.tupB K x (zs.map He.Dv.str) = true) : GlV ⟨P, w, K, mg, base⟩ x (.tup (zs.map fun z => D.str z.cps.toList)) :=
  ⟨_, .ref (He.ga K x), He.glo_ok X G c, rfl, fun F => .tup (He.tupB_ok c2 F) (rep_strs zs)⟩
end CR

end

section
namespace CR
open PySem PySem.Spec PyProof.Rows L2
section
variable {Γ : Wd} {X : Cx} {B : Bs} {N : List Str} {nm : List (Str × NameKind)} {k : Nat} {E EN : EK} {F H : Hp} {σ : L2.St} {ρ : List Sl} {S : Sto} {Q : D → Sto → Prop} {elt tg it : Expr} {ifs : List Expr} {pos p : Pos} {x : Str} {i : Nat} {Dd : Dn}
theorem lc_askO {scope : Scope} {own : List (Str × Nat)} {wi : TI} (G : Gd Γ X N nm k B E) (hbk : blkC N (scOf nm) scope own = true) (c : Cf Γ B F H σ ρ S)
    (hwi : ∀ F H σ, Cf Γ B F H σ ρ S → ∀ R : It → Hp → Prop, (∀ J F' H' S' ds, Ab Γ.K S' F' H' → Grow S F H S' F' H' → IterD Γ.K J F' ds → LcQ Γ B N nm k elt tg ifs scope own ρ Q ds S' → R J H') → wi σ H R) {Qv : VK} (hq : ∀ L H' S' F' vs acc, Ab Γ.K S' F' H' → Grow S F H S' F' H' → H L = none → H' L = some (.lst vs) → RepL Γ.K F' vs acc → F' L = none → S' L = none → Q (.lst acc) S' → Qv (.ref L) H') :
    tLc wi (gLc X scope tg) (tLcs X scope ifs) (eLc X scope elt) (own.map (·.2)) σ H Qv := by
  refine hwi F H σ c _ fun J F0 H0 S0 ds A0 g0 itd ⟨hz, W, w0, turn, fin⟩ => ?_
  have c0 := c.grow A0 g0
  intro L hL
  have AL := A0.loose (o := .lst []) hL
  have gL := A0.g_loose (o := .lst []) hL
  let P : Nat → Hp → Prop := fun i H' => ∃ S' F' vs acc, Ab Γ.K S' F' H' ∧ Grow S0 F0 H0 S' F' H' ∧ H' L = some (.lst vs) ∧ RepL Γ.K F' vs acc ∧ F' L = none ∧ S' L = none ∧ acc.length ≤ i ∧ W (ds.drop i) acc S'
  refine ⟨fun i m H' => m = ds.length - i ∧ i ≤ ds.length ∧ P i H', ⟨ds.length, rfl, Nat.zero_le _, S0, F0, [], [], AL, gL, upd_same, .nil, A0.fnone hL, A0.snone hL, Nat.le_refl _, w0⟩, ?_⟩
  rintro i m H' ⟨rfl, hi, S', F', vs, acc, A', g', hl, rl, fl, sl, al, w⟩
  have ex' : Ex F0 H' := g'.ex.trans A'.ex
  by_cases hlt : i < ds.length
  · refine .inr ⟨itd.go i H' ex' hlt, P (i + 1), fun H2 n2 => ⟨ds.length - (i + 1), by omega, rfl, hlt, n2⟩, fun v H1 hy => ?_⟩
    obtain ⟨eH, hr⟩ := itd.yl i H' v H1 ex' hy
    subst eH
    have hd : ds.drop i = ds[i] :: ds.drop (i + 1) := List.drop_eq_getElem_cons hlt
    rw [hd] at w
    obtain ⟨ρ2, hg, hb⟩ := turn _ _ acc S' w
    have rv := (hr _ (List.getElem?_eq_getElem hlt)).mono g'.ex
    have c1 := c0.grow A' g'
    intro s Hs C cl fp
    refine hg _ (gd_blk G hbk s Hs C cl fp) S' F' H1 _ v _ A' (c1.2.1.wipe (own.map (·.2))) rv fun σ2 e2 l2 k2 => ⟨wipe_at (by rw [l2, wipe_length]) k2, ?_⟩
    have c2 : Cf Γ B F' H1 σ2 ρ2 S' := ⟨A', e2, c1.2.2⟩
    intro s Hs C cl fp
    refine fun pins s1 I1 => thn (hb _ (gd_blk G hbk s Hs C cl fp) F' H1 σ2 c2 pins s1 I1) fun z s2 ⟨H2, I2, F2, S2, A2, g2, qt, qf⟩ => ⟨H2, I2, ?_⟩
    have hl2 := g2.fr _ _ hl sl
    cases z with
    | false =>
      refine iteF ⟨S2, F2, vs, acc, A2, g'.trans g2, hl2, rl.mono g2.ex, g2.nf _ _ hl fl, g2.ns _ _ hl sl, by omega, qf rfl⟩
    | true =>
      refine iteT ?_
      intro s Hs C cl fp
      refine ((qt rfl _ (gd_blk G hbk s Hs C cl fp)).run F2 H2 σ2 (c2.grow A2 g2)).mono fun y H3 ⟨F3, dy, S3, A3, g3, ry, w3⟩ => ?_
      have hl3 := g3.fr _ _ hl2 (g2.ns _ _ hl sl)
      have f3 := g3.nf _ _ hl2 (g2.nf _ _ hl fl)
      have s3 := g3.ns _ _ hl2 (g2.ns _ _ hl sl)
      have g13 := (g'.trans g2).trans g3
      refine ⟨vs, hl3, sz_lt (by rw [rl.length]; omega), S3, F3, vs ++ [y], acc ++ [dy], ⟨fun a o e => ?_, fun a o e => ?_⟩, ⟨g13.ex, fun a o e n => ?_, g13.nf, g13.ns, fun a o e => ?_⟩, upd_same, ((rl.mono g2.ex).mono g3.ex).append (.cons ry .nil), f3, s3, by rw [List.length_append, List.length_singleton]; omega, w3⟩
      · have ne : a ≠ L := fun z => by
          rw [z, f3] at e
          cases e
        rw [upd_ne ne]
        exact A3.ex a o e
      · have ne : a ≠ L := fun z => by
          rw [z, s3] at e
          cases e
        exact ⟨(A3.st a o e).1, (A3.st a o e).2.mono (Evl.Ex.refl F3) (upd_ne ne)⟩
      · rw [upd_ne (ne_of_none e hL)]
        exact g13.fr a o e n
      · obtain ⟨o', z⟩ := g13.th a o e
        exact ⟨o', by rw [upd_ne (ne_of_none e hL)]; exact z⟩
  · have hd : ds.drop i = [] := List.drop_eq_nil_of_le (by omega)
    rw [hd] at w
    exact .inl ⟨itd.st i H' ex' (by omega), hq _ _ _ _ _ _ A' (g0.trans g') (g0.back hL) hl rl fl sl (fin acc S' w)⟩
/-- x = [elt for tg in it if ..] on one line: the list is the slot's own -/
theorem wS_lcO {scope : Scope} {px : Pos} (G : Gs Γ X N nm k B E) (own : List (Str × Nat)) (hbk : blkC N (scOf nm) scope own = true) (hi : N[i]? = some x) (hx : nm.lookup x = some .local) (hl : (px.line == p.line) = true) (ha : (scope.names.any fun (n, k) => n == x && (k == .local || k == .cell)) = false)
    (h : wI Γ X B tg it ρ S fun ds S1 => LcQ Γ B N nm k elt tg ifs scope own ρ (fun d S2 => ∃ xs, d = .lst xs ∧ Dd.nx (ρ.set i (.own xs)) S2) ds S1)
    (hs : ∀ x, foldedSetIterable it X.env x = pure x := by intro _; rfl) : wS Γ X B (.Assign [.Name x px] (.ListComp elt [⟨tg, it, ifs, 0⟩] scope p) pos) ρ S Dd := .mk fun F H σ c => by
  obtain ⟨wi, hpi, hwi⟩ := h
  refine (ps_setLc (i := i) (wi := wi) (g := gLc X scope tg) (tt := tLcs X scope ifs) (te := eLc X scope elt) G.g.calm (by rw [G.g.hN]; exact G.g.nd) (by rw [G.g.hN]; exact hi) (by rw [G.g.hn]; exact hx) (sw_true G.g.kind (by rw [G.g.hn]; exact hx) hl ha) hpi (blkOk_of G.g hbk)
    (fun s H C cl fp => ⟨fun pins s1 σ H v u Q I r h => h s _ C cl fp pins s1 u I r⟩) (fun s H C cl fp => ⟨fun pins s1 σ H Q I h => h s _ C cl fp pins s1 I⟩) (fun s H C cl fp => ⟨fun pins s1 σ H Q I h => h s _ C cl fp pins s1 I⟩) hs).tw ?_
  refine lc_askO (Qv := fun v H' => NQ Γ B F Dd.nx (σ.set i (some v)) H') G.g hbk c hwi fun L H1 S1 F1 vs acc A1 g1 hL hl1 r1 f1 s1 ⟨xs, e, q⟩ => ?_
  cases e
  have c1 := c.grow A1 g1
  refine ⟨_, S1, F1, ⟨A1, c1.2.1.own i hl1 r1 f1 s1 (Grow.back c.2.2 hL) fun j ys _ h1 h2 => ?_, c1.2.2⟩, g1.ex, q⟩
  obtain ⟨l, vs', h3, h4, _⟩ := c.2.1.own_at h1
  rw [h3] at h2
  have h5 : l = L := by
    have := Option.some.inj (Option.some.inj h2)
    injection this
  rw [h5, hL] at h4
  cases h4
theorem wS_monoA {st : Stmt} {D1 D2 : Dn} (h : wS Γ X B st ρ S D1) (n : ∀ ρ S, D1.nx ρ S → D2.nx ρ S) (r : ∀ d S, D1.rt d S → D2.rt d S) (b : ∀ ρ S, D1.bk ρ S → D2.bk ρ S) (t : ∀ ρ S, D1.ct ρ S → D2.ct ρ S) : wS Γ X B st ρ S D2 := .mk fun F H σ c => (h.run F H σ c).mono
  ⟨fun _ _ ⟨ρ, S, F1, c, e, q⟩ => ⟨ρ, S, F1, c, e, n _ _ q⟩, fun _ _ ⟨d, S, F1, A, g, rr, q⟩ => ⟨d, S, F1, A, g, rr, r _ _ q⟩, fun _ _ ⟨ρ, S, F1, c, e, q⟩ => ⟨ρ, S, F1, c, e, b _ _ q⟩, fun _ _ ⟨ρ, S, F1, c, e, q⟩ => ⟨ρ, S, F1, c, e, t _ _ q⟩⟩
theorem wSs_cut {st : Stmt} {sts : List Stmt} (P : List Sl → Sto → Prop) (h1 : wS Γ X B st ρ S { Dd with nx := P }) (h2 : ∀ ρ' S', P ρ' S' → wSs Γ X B sts ρ' S' Dd) : wSs Γ X B (st :: sts) ρ S Dd :=
  wSs_cons (wS_monoA h1 h2 (fun _ _ q => q) (fun _ _ q => q) fun _ _ q => q)
end
end CR

end

section
namespace CR
open PySem PySem.Spec PyProof.Rows L2
section
variable {Γ : Wd} {X : Cx} {B : Bs} {e a b c o : Expr} {es : List Expr} {st : Stmt} {sts : List Stmt} {ρ ρ' : List Sl} {S : Sto} {N : List Str} {nm nmb : List (Str × NameKind)} {k j : Nat} {E : EK} {pos p p2 apos cpos px pl : Pos}
variable {F H F' H' : Hp} {Q : D → Sto → Prop} {QB : Bool → Sto → Prop} {QA : List D → Sto → Prop} {Dd : Dn} {x m : Str} {Φ : FnS} {i : Nat} {σ : L2.St} {f : Sl → List Sl} {q : Addr} {xs ys : List D}
theorem del_ne {b : Addr} (h : b ≠ q) : del S q b = S b := if_neg h
theorem Ab.frzL {K : PySem.W.Frag} (A : Ab K S F H) (h : S q = some (.lst xs)) : ∃ F', Ab K (del S q) F' H ∧ Ex F F' ∧ Rep K F' (.ref q) (.lst xs) ∧ ∀ a, a ≠ q → F' a = F a := by
  obtain ⟨h1, vs, h2, h3⟩ := A.st q _ h
  have ee := Evl.Ex.new (o := .lst vs) h1
  refine ⟨upd F q (.lst vs), ⟨fun a u e => ?_, fun a u e => ?_⟩, ee, .lst upd_same (h3.mono ee), fun a ne => upd_ne ne⟩
  · by_cases c : a = q
    · subst c
      rw [upd_same] at e
      rw [← e]
      exact h2
    · rw [upd_ne c] at e
      exact A.ex a u e
  · have ne : a ≠ q := fun c => by
      subst c
      unfold del at e
      rw [if_pos rfl] at e
      cases e
    rw [upd_ne ne]
    rw [del_ne ne] at e
    obtain ⟨z1, z2⟩ := A.st a u e
    exact ⟨z1, z2.mono ee rfl⟩
/-- a list of the store, made in this def, that a slot holds -/
theorem Cf.frzS (c : Cf Γ B F H σ ρ S) (hb : B.H q = none) (h : S q = some (.lst xs)) (hs : ρ[i]? = some (.val (.ref q))) : ∃ F', Cf Γ B F' H σ (ρ.set i (.val (.lst xs))) (del S q) ∧ Ex F F' := by
  obtain ⟨F', A', ee, rq, same⟩ := c.1.frzL h
  have dn : ∀ l, S l = none → del S q l = none := fun l hl => by
    unfold del
    split
    · rfl
    · exact hl
  refine ⟨F', ⟨A', ⟨by rw [List.length_set]; exact c.2.1.len, fun j s hj => ?_, fun a b l' us zs k1 k2 k3 k4 => ?_⟩, ⟨c.2.2.ex.trans ee, c.2.2.fr, fun a o e n => ?_, fun a o e n => dn a (c.2.2.ns a o e n), c.2.2.th⟩⟩, ee⟩
  · have hi : i < ρ.length := (List.getElem?_eq_some_iff.mp hs).1
    by_cases e : i = j
    · subst e
      rw [List.getElem?_set_self hi] at hj
      have h7 := Option.some.inj hj
      subst h7
      obtain ⟨ov, h1, v, h2, h3⟩ := c.2.1.at_ i _ hs
      cases h3
      exact ⟨_, h1, .ref q, h2, rq⟩
    · rw [List.getElem?_set_ne e] at hj
      obtain ⟨ov, k1, k2⟩ := c.2.1.at_ j s hj
      refine ⟨ov, k1, ?_⟩
      cases s with
      | no => trivial
      | val d => obtain ⟨v, q1, q2⟩ := k2; exact ⟨v, q1, q2.mono ee⟩
      | own zs =>
        obtain ⟨l2, vs2, rfl, k4, k5, k6, k7, k8⟩ := k2
        have ne : l2 ≠ q := fun z => by
          subst z
          rw [h] at k7
          cases k7
        exact ⟨l2, vs2, rfl, k4, k5.mono ee, by rw [same l2 ne]; exact k6, dn l2 k7, k8⟩
  · have ne : ∀ z (us : List D), (ρ.set i (.val (.lst xs)))[z]? = some (.own us) → i ≠ z := fun z us hz e => by
      subst e
      have hi : i < ρ.length := (List.getElem?_eq_some_iff.mp hs).1
      rw [List.getElem?_set_self hi] at hz
      cases hz
    have n1 := ne a us k1
    have n2 := ne b zs k2
    rw [List.getElem?_set_ne n1] at k1
    rw [List.getElem?_set_ne n2] at k2
    exact c.2.1.sep a b l' us zs k1 k2 k3 k4
  · have ne : a ≠ q := fun z => by
      rw [z, hb] at e
      cases e
    rw [same a ne]
    exact c.2.2.nf a o e n
theorem wSs_frzS (i : Nat) (hB : B.H q = none) (h : S q = some (.lst xs)) (hs : ρ[i]? = some (.val (.ref q))) (g : wSs Γ X B sts (ρ.set i (.val (.lst xs))) (del S q) Dd) : wSs Γ X B sts ρ S Dd := .mk fun F H σ c => by
  obtain ⟨F', c', e⟩ := c.frzS hB h hs
  exact (g.run F' H σ c').mono (lift_le e)
theorem wS_frzS (i : Nat) (hB : B.H q = none) (h : S q = some (.lst xs)) (hs : ρ[i]? = some (.val (.ref q))) (g : wS Γ X B st (ρ.set i (.val (.lst xs))) (del S q) Dd) : wS Γ X B st ρ S Dd := .mk fun F H σ c => by
  obtain ⟨F', c', e⟩ := c.frzS hB h hs
  exact (g.run F' H σ c').mono (lift_le e)
/-- x = [], a list of the store, of which the caller knows nothing -/
theorem sTownB {fu : Sl → List Sl} (G : Gs Γ X N nm k B E) (hu : UpF N x ρ fu) (hx : Kd nm x .local ∨ Kd nm x .cell) (h : ∀ a, S a = none → B.H a = none → Dd.nx (fu (.val (.ref a))) (put S a (.lst []))) :
    wS Γ X B (.Assign [.Name x px] (.List [] pl) pos) ρ S Dd := by
  obtain ⟨i, h1, h2⟩ := hu.ix
  refine .mk fun F H σ c => ?_
  have hx' : nm.lookup x = some .local ∨ nm.lookup x = some .cell := hx.imp (Kd.lk G.g.uq) (Kd.lk G.g.uq)
  refine (ps_set (i := i) (by rw [G.g.hN]; exact G.g.nd) (by rw [G.g.hN]; exact h1) (by unfold L2.Loc; rw [G.g.hn]; exact hx') (pe_lst pa_w) rfl (.inl (G.fn x))).tw ?_
  refine ((wA_nil (QA := fun xs S1 => xs = [] ∧ S1 = S) ⟨rfl, rfl⟩ : wA Γ X B [] ρ S _).run F H σ c).mono fun vs H1 ⟨F1, xs, S1, A1, g1, r1, e1, e2⟩ => ?_
  subst e1 e2
  cases r1
  refine ⟨sz_le (Nat.zero_le _), fun p hp => ?_⟩
  have c1 := c.grow A1 g1
  have A2 := (A1.loose (o := .lst []) hp).take (u := .lst []) ⟨[], upd_same, .nil⟩ (A1.fnone hp)
  have g2 : Grow S1 F1 H1 (put S1 p (.lst [])) F1 (upd H1 p (.lst [])) := A1.g_take hp
  have c2 := c1.grow A2 g2
  refine ⟨_, put S1 p (.lst []), F1, ⟨A2, c2.2.1.set i (.ref p), c2.2.2⟩, g1.ex, ?_⟩
  rw [h2]
  exact h p (A1.snone hp) (c1.2.2.back hp)
def Op2At (Γ : Wd) (r : R2) (S : Sto) (x y z : D) : Prop := ∀ (F H : Hp) (v u : V) (Qv : VK), Ab Γ.K S F H → Rep Γ.K F v x → Rep Γ.K F u y → (∀ v' F' H', Ab Γ.K S F' H' → Grow S F H S F' H' → Rep Γ.K F' v' z → Qv v' H') → r v u H Qv
structure CmpAt (Γ : Wd) (X : Cx) (op : CmpOp) (S : Sto) (x y : D) (z : Bool) : Prop where
  ex : ∃ r, OpR X (compareOp op) r ∧ Op2At Γ r S x y (.bl z)
theorem wE_cmpA {op : CmpOp} (h : wE Γ X B a ρ S fun x S1 => wE Γ X B b ρ S1 fun y S2 => ∃ z, CmpAt Γ X op S2 x y z ∧ Q (.bl z) S2) (hm : behindInMarks op b = false := by with_unfolding_all rfl) : wE Γ X B (.Compare a [op] [b] pos) ρ S Q := .mk fun F H σ c => by
  intro pins s I
  refine wpAny_Compare1 (binT pe_w pe_w I (R := fun v u H2 => ∃ r, OpR X (compareOp op) r ∧ r v u H2 (VQ Γ S F H Q)) ?_ fun v u s2 x y H2 I2 rx ry ⟨r, hr, q⟩ => hr pins s2 σ H2 x y v u _ I2 rx ry q) hm
  refine (h.run F H σ c).mono fun v H1 ⟨F1, x, S1, A1, g1, r1, h1⟩ => ?_
  refine (h1.run F1 H1 σ (c.grow A1 g1)).mono fun u H2 ⟨F2, y, S2, A2, g2, r2, z, ⟨r, hr, o⟩, q⟩ => ⟨r, hr, ?_⟩
  exact o F2 H2 v u _ A2 (r1.mono g2.ex) r2 fun v' F' H' A' g' r' => ⟨F', _, S2, A', (g1.trans g2).trans g', r', q⟩
theorem wT_cmpA {op : CmpOp} (h : wE Γ X B a ρ S fun x S1 => wE Γ X B b ρ S1 fun y S2 => ∃ z, CmpAt Γ X op S2 x y z ∧ QB z S2) (hm : behindInMarks op b = false := by with_unfolding_all rfl) : wT Γ X B (.Compare a [op] [b] pos) ρ S QB := .mk fun F H σ c => by
  intro pins s I
  refine wpAny_isTrue_Compare1 (thn (h.run F H σ c pins s I) fun v s1 ⟨x, H1, I1, rx, F1, dx, S1, A1, g1, r1, h1⟩ => thn (h1.run F1 H1 σ (c.grow A1 g1) pins s1 I1) fun u s2 ⟨y, H2, I2, ry, F2, dy, S2, A2, g2, r2, z, ⟨r, hr, o⟩, q⟩ =>
    thn (hr pins s2 σ H2 x y v u (fun w H3 => w = .bl z ∧ BQ Γ S F H QB z H3) I2 rx ry (o F2 H2 x y _ A2 (r1.mono g2.ex) r2 fun v' F' H' A' g' r' => by
      cases r'
      exact ⟨rfl, F', S2, A', (g1.trans g2).trans g', q⟩)) fun c s3 ⟨w, H3, I3, r3, e, q3⟩ => ?_) hm
  subst e
  cases r3
  exact wpAny_truthy_bool ⟨H3, I3, q3⟩
theorem cmpA {op : CmpOp} {u v : D} {z : Bool} (h : CmpR Γ X op u v z) : CmpAt Γ X op S u v z := by
  obtain ⟨r, hr, o⟩ := h
  exact ⟨r, hr, o S⟩
/-- the store's list beside a datum -/
theorem Pu.dpR {K : PySem.W.Frag} {n : Nat} (A : Ab K S F H) (h : S q = some (.lst xs)) (hp : ∀ x ∈ xs, Pu n x) {v : V} (r : Rep K F v (.ref q)) : Dp K H v (pyD (.lst xs)) := by
  obtain ⟨h1, vs, h2, h3⟩ := A.st q _ h
  cases r
  exact .lst (SqL.of h2) (Pu.dps A.ex hp h3)
theorem eqStL {v : D} {n1 n2 : Nat} (G : Gd Γ X N nm k B E) (h : S q = some (.lst xs)) (h1 : ∀ x ∈ xs, Pu n1 x) (h2 : Pu n2 v) (l1 : n1 ≤ 50) (l2 : n2 ≤ 60) : CmpAt Γ X .Eq S (.ref q) v (PyData.eqv (pyD (.lst xs)) (pyD v)) := ⟨_, op_eqD G.room.units, fun F H x y Qv A rx ry f => by
  rw [G.hK]
  exact ⟨_, _, Pu.dpR A h h1 rx, h2.dp A.ex ry, (Pu.lst h1 : Pu (n1 + 1) (.lst xs)).shaped (by omega), h2.shaped l2, f _ F H A (Grow.refl S F H) (.bl _)⟩⟩
theorem neStL {v : D} {n1 n2 : Nat} (G : Gd Γ X N nm k B E) (h : S q = some (.lst xs)) (h1 : ∀ x ∈ xs, Pu n1 x) (h2 : Pu n2 v) (l1 : n1 ≤ 50) (l2 : n2 ≤ 60) : CmpAt Γ X .NotEq S (.ref q) v (!PyData.eqv (pyD (.lst xs)) (pyD v)) := ⟨_, op_neD G.room.units, fun F H x y Qv A rx ry f => by
  rw [G.hK]
  exact ⟨_, _, Pu.dpR A h h1 rx, h2.dp A.ex ry, (Pu.lst h1 : Pu (n1 + 1) (.lst xs)).shaped (by omega), h2.shaped l2, f _ F H A (Grow.refl S F H) (.bl _)⟩⟩
theorem any_pyDs (u : PyData) : ∀ xs : List D, (pyDs xs).any (fun z => PyData.eqv z u) = xs.any fun y => PyData.eqv (pyD y) u
  | [] => rfl
  | a :: r => by show (PyData.eqv (pyD a) u || _) = (_ || _); rw [any_pyDs u r]
theorem inD {u : D} {xs : List D} {n : Nat} (G : Gd Γ X N nm k B E) (h : Pu n u) (h1 : Pu n (.lst xs)) (l : n ≤ 60) : CmpR Γ X .In u (.lst xs) (xs.any fun y => PyData.eqv (pyD y) (pyD u)) := ⟨_, op_inD (by have := G.room.un; omega), fun S F H x y Qv A rx ry q => by
  rw [G.hK]
  refine ⟨pyD u, pyDs xs, h.dp A.ex rx, h1.dp A.ex ry, h.shaped l, h1.shaped l, ?_⟩
  rw [any_pyDs]
  exact q _ F H A (Grow.refl S F H) (.bl _)⟩
theorem niD {u : D} {xs : List D} {n : Nat} (G : Gd Γ X N nm k B E) (h : Pu n u) (h1 : Pu n (.lst xs)) (l : n ≤ 60) : CmpR Γ X .NotIn u (.lst xs) (!xs.any fun y => PyData.eqv (pyD y) (pyD u)) := ⟨_, op_notInD (by have := G.room.un; omega), fun S F H x y Qv A rx ry q => by
  rw [G.hK]
  refine ⟨pyD u, pyDs xs, h.dp A.ex rx, h1.dp A.ex ry, h.shaped l, h1.shaped l, ?_⟩
  rw [any_pyDs]
  exact q _ F H A (Grow.refl S F H) (.bl _)⟩
theorem RepL.rev {K : PySem.W.Frag} {F : Hp} {v : List V} {d : List D} (r : RepL K F v d) : RepL K F v.reverse d.reverse := by
  induction d generalizing v with
  | nil => cases r; exact .nil
  | cons x d ih =>
    cases r with
    | cons h r =>
      rw [List.reverse_cons, List.reverse_cons]
      exact (ih r).append (.cons h .nil)
/-- xs[::-1] -/
theorem wE_rev {kk : Nat} {p1 p2 p3 : Pos} (G : Gd Γ X N nm k B E) (h : wE Γ X B a ρ S fun d S1 => ∃ ds, d = .lst ds ∧ Q (.lst ds.reverse) S1) : wE Γ X B (.Subscript a (.Slice none none (some (.UnaryOp .USub (.Constant (.int 1) kk p1) p2)) p3) pos) ρ S Q := .mk fun F H σ c => by
  refine (pe_revL pe_w).tw ((h.run F H σ c).mono fun v H1 ⟨F1, d, S1, A1, g1, r1, ds, e, q⟩ => ?_)
  subst e
  cases r1 with
  | lst hl r =>
    refine ⟨_, _, rfl, SqL.of (A1.ex _ _ hl), fun p hp => VQ.trans g1 (VQ.new A1 hp (.lst upd_same ((r.rev).mono ?_)) q)⟩
    exact Evl.Ex.new (A1.fnone hp)
/-- sorted(ints), sorted(texts) -/
theorem sortedI {ns : List Int} {R : D → Sto → Prop} (G : Gd Γ X N nm k B E) (q : ∀ ms : List Int, ms.Perm ns → ms.Pairwise (· ≤ ·) → R (.lst (ms.map .int)) S) : BltS Γ X (.builtin "sorted") S [.lst (ns.map .int)] R := ⟨_, cr_sortedI, fun F H vs Qv A r f => by
  cases r with
  | cons r1 rr =>
    cases rr
    cases r1 with
    | lst h1 r2 =>
      have e := r2.ints
      subst e
      refine ⟨_, ns, rfl, SqL.of (A.ex _ _ h1), fun ms p hp h2 h3 => ?_⟩
      exact f _ _ S _ _ (A.frozen h3) (A.g_frozen h3) (.lst upd_same (RepL.of_ints ms)) (q ms hp h2)⟩
theorem sortedT {ns : List (List Nat)} {R : D → Sto → Prop} (G : Gd Γ X N nm k B E) (h64 : ns.length < 64) (q : ∀ ms : List (List Nat), ms.Perm ns → sortedS (ms.map fun t => ⟨t.toArray⟩) = true → R (.lst (ms.map .str)) S) : BltS Γ X (.builtin "sorted") S [.lst (ns.map .str)] R := ⟨_, cr_sortedS, fun F H vs Qv A r f => by
  cases r with
  | cons r1 rr =>
    cases rr
    cases r1 with
    | lst h1 r2 =>
      have e := r2.strs
      subst e
      refine ⟨_, ns.map fun t => ⟨t.toArray⟩, rfl, by rw [List.map_map]; exact SqL.of (A.ex _ _ h1), by rw [List.length_map]; exact h64, fun ys p hp h2 h3 => ?_⟩
      have back : ∀ (ys : List Str), (ys.map fun s => s.cps.toList).map (fun t => (⟨t.toArray⟩ : Str)) = ys := fun ys => by
        rw [List.map_map]
        exact List.map_id'' (fun s => by simp) ys
      have hp2 : (ys.map fun s => s.cps.toList).Perm ns := by
        have := hp.map fun s : Str => s.cps.toList
        rwa [List.map_map, show ((fun s : Str => s.cps.toList) ∘ fun t : List Nat => (⟨t.toArray⟩ : Str)) = id from funext fun t => by simp, List.map_id] at this
      refine f _ _ S _ _ (A.frozen h3) (A.g_frozen h3) (.lst upd_same ?_) (q (ys.map fun s => s.cps.toList) hp2 (by rw [back]; exact h2))
      have z := RepL.of_strs (K := Γ.K) (F := upd F p (.lst (ys.map V.str))) (ys.map fun s => s.cps.toList)
      rw [show (fun s : List Nat => V.str ⟨s.toArray⟩) = V.str ∘ (fun t : List Nat => (⟨t.toArray⟩ : Str)) from rfl, ← List.map_map, back] at z
      exact z⟩
theorem lcM2 {α : Type} {xs : List α} {g h : α → D} {i : Nat} {elt : Expr} {scope : Scope} {own : List (Str × Nat)} (is : List Nat) (his : own.map (·.2) = is) (hnb : nmB scope nm = nmb) (hi : N[i]? = some x) (hm : i ∈ is) (hx : Kd nmb x .local) (hl : xs.length ≤ 100000)
    (he : ∀ y ∈ xs, ∀ Xb, Gd Γ Xb N nmb k B EN → pE Γ Xb B elt ((wipeS ρ is).set i (.val (g y))) S (h y)) (q : Q (.lst (xs.map h)) S) : LcQ Γ B N nm k elt (.Name x pos) [] scope own ρ Q (xs.map g) S := by
  subst his
  exact lcM hnb hl _ (fun y hy Xb Gb => gNm Gb hi hx hm) he q
theorem lcP2 {α : Type} {xs : List α} {g h : α → D} {pr : α → Bool} {i : Nat} {t elt : Expr} {scope : Scope} {own : List (Str × Nat)} (is : List Nat) (his : own.map (·.2) = is) (hnb : nmB scope nm = nmb) (hi : N[i]? = some x) (hm : i ∈ is) (hx : Kd nmb x .local) (hl : xs.length ≤ 100000)
    (ht : ∀ y ∈ xs, ∀ Xb, Gd Γ Xb N nmb k B EN → pT Γ Xb B t ((wipeS ρ is).set i (.val (g y))) S (pr y))
    (he : ∀ y ∈ xs, pr y = true → ∀ Xb, Gd Γ Xb N nmb k B EN → pE Γ Xb B elt ((wipeS ρ is).set i (.val (g y))) S (h y)) (q : Q (.lst ((xs.filter pr).map h)) S) : LcQ Γ B N nm k elt (.Name x pos) [t] scope own ρ Q (xs.map g) S := by
  subst his
  exact lcP hnb hl _ (fun y hy Xb Gb => gNm Gb hi hx hm) (fun y hy Xb Gb QB q => wTs_one (ht y hy Xb Gb QB q)) he q
theorem lcV2 {α : Type} {xs : List α} {g : α → D} {i : Nat} {elt : Expr} {scope : Scope} {own : List (Str × Nat)} (I : List α → List D → Sto → Prop) (is : List Nat) (his : own.map (·.2) = is) (hnb : nmB scope nm = nmb) (hi : N[i]? = some x) (hm : i ∈ is) (hx : Kd nmb x .local) (hl : xs.length ≤ 100000) (h0 : I [] [] S)
    (he : ∀ y pre post acc, xs = pre ++ y :: post → ∀ S', I pre acc S' → ∀ Xb, Gd Γ Xb N nmb k B EN → wE Γ Xb B elt ((wipeS ρ is).set i (.val (g y))) S' fun d S2 => I (pre ++ [y]) (acc ++ [d]) S2) (q : ∀ acc S', I xs acc S' → Q (.lst acc) S') : LcQ Γ B N nm k elt (.Name x pos) [] scope own ρ Q (xs.map g) S := by
  subst hnb
  subst his
  refine ⟨by rw [List.length_map]; exact hl, fun ds acc S' => ∃ pre post, xs = pre ++ post ∧ ds = post.map g ∧ I pre acc S', ⟨[], xs, rfl, rfl, h0⟩, fun d rest acc S' ⟨pre, post, e1, e2, hI⟩ => ?_, fun acc S' ⟨pre, post, e1, e2, hI⟩ => ?_⟩
  · cases post with
    | nil => cases e2
    | cons y post =>
      rw [List.map_cons] at e2
      obtain ⟨e4, e5⟩ := List.cons.inj e2
      subst e4 e5
      refine ⟨_, fun Xb Gb => gNm Gb hi hx hm, fun Xb Gb => wTs_nil ⟨fun _ Xb Gb => ?_, fun z => Bool.noConfusion z⟩⟩
      exact (he y pre post acc e1 S' hI Xb Gb).mono fun d S2 hI2 => ⟨pre ++ [y], post, by rw [e1]; simp, rfl, hI2⟩
  · cases post with
    | cons y post => cases e2
    | nil =>
      rw [List.append_nil] at e1
      subst e1
      exact q acc S' hI
/-- .. whose parts change the store -/
theorem lcS2 {α : Type} {xs : List α} {g h : α → D} {i : Nat} {elt : Expr} {scope : Scope} {own : List (Str × Nat)} (I : List α → Sto → Prop) (is : List Nat) (his : own.map (·.2) = is) (hnb : nmB scope nm = nmb) (hi : N[i]? = some x) (hm : i ∈ is) (hx : Kd nmb x .local) (hl : xs.length ≤ 100000) (h0 : I [] S)
    (he : ∀ y pre post, xs = pre ++ y :: post → ∀ S', I pre S' → ∀ Xb, Gd Γ Xb N nmb k B EN → wE Γ Xb B elt ((wipeS ρ is).set i (.val (g y))) S' fun d S2 => d = h y ∧ I (pre ++ [y]) S2) (q : ∀ S', I xs S' → Q (.lst (xs.map h)) S') : LcQ Γ B N nm k elt (.Name x pos) [] scope own ρ Q (xs.map g) S := by
  subst his
  exact lcS I hnb hl _ (fun y hy Xb Gb => gNm Gb hi hx hm) h0 he q
/-- a walk's name that a part reads too -/
theorem gNmC {bh : Hp} {is : List Nat} {y : D} {i : Nat} (G : Gs Γ X N nm k B E) (hi : N[i]? = some x) (hx : Kd nm x .cell) (hm : i ∈ is) : wG Γ X bh (.Name x pos) is y ρ (ρ.set i (.val y)) :=
  wG_cell G hi (hx.lk G.g.uq) fun j hj z => hj (z ▸ hm)
theorem cutN_seg {s : List Nat} {a b : Nat} : cutN s (some (a : Int)) (some (b : Int)) = seg s a b := by
  rw [cutN_nat]
  unfold seg
  by_cases h : a ≤ s.length
  · rw [Nat.min_eq_left h]
    by_cases h2 : b ≤ s.length
    · rw [Nat.min_eq_left h2]
    · rw [Nat.min_eq_right (by omega), List.take_of_length_le (by rw [List.length_drop]; omega), List.take_of_length_le (by rw [List.length_drop]; omega)]
  · rw [show min a s.length = s.length by omega, List.drop_of_length_le (Nat.le_refl _), List.drop_of_length_le (by omega), List.take_nil, List.take_nil]
/-- a slice of a text, wherever it ends -/
theorem slcA {s : List Nat} {a b : Nat} (hs : s.length ≤ 100000) : SlcR Γ X (.str s) (some (a : Int)) (some (b : Int)) (.str (seg s a b)) := by
  rw [← cutN_seg]
  exact slcS hs
theorem put_none {b : Addr} {o : Ob} (h : put S q o b = none) : S b = none := by
  unfold put at h
  split at h
  · cases h
  · exact h
theorem ne_some {b : Addr} {o : Ob} (h : S q = some o) (h2 : S b = none) : q ≠ b := fun z => by
  rw [z, h2] at h
  cases h
/-- nothing stands in it -/
theorem eqv_nil (xs : List D) : PyData.eqv (pyD (.lst xs)) (pyD (.lst [])) = xs.isEmpty := by cases xs <;> rfl
theorem neNil {n : Nat} (G : Gd Γ X N nm k B E) (h : ∀ x ∈ xs, Pu n x) (l : n ≤ 50) : CmpR Γ X .NotEq (.lst xs) (.lst []) (!xs.isEmpty) := by
  have := neDat (X := X) G (Pu.lst h) (Pu.lst (n := 0) (xs := []) (fun x hx => nomatch hx)) (by omega) (by decide)
  rwa [eqv_nil] at this
theorem eqNilS {n : Nat} (G : Gd Γ X N nm k B E) (hS : S q = some (.lst xs)) (h : ∀ x ∈ xs, Pu n x) (l : n ≤ 50) : CmpAt Γ X .Eq S (.ref q) (.lst []) xs.isEmpty := by
  have := eqStL (X := X) G hS h (Pu.lst (n := 0) (xs := []) (fun x hx => nomatch hx)) l (by decide)
  rwa [eqv_nil] at this
theorem neNilS {n : Nat} (G : Gd Γ X N nm k B E) (hS : S q = some (.lst xs)) (h : ∀ x ∈ xs, Pu n x) (l : n ≤ 50) : CmpAt Γ X .NotEq S (.ref q) (.lst []) (!xs.isEmpty) := by
  have := neStL (X := X) G hS h (Pu.lst (n := 0) (xs := []) (fun x hx => nomatch hx)) l (by decide)
  rwa [eqv_nil] at this
theorem joinT_one : ∀ cs : List Nat, joinT [] (cs.map fun c => [c]) = cs
  | [] => rfl
  | [c] => rfl
  | c :: d :: r => by
    show [c] ++ [] ++ joinT [] ((d :: r).map fun c => [c]) = _
    rw [joinT_one (d :: r)]
    rfl
/-- range(i) -/
theorem iR1Z {tg : Expr} (G : Gd Γ X N nm k B E) (hg : Kd nm "range" .globalImplicit) (hm : Γ.mg ("range" : Str) = none) (h : wA Γ X B [a] ρ S fun ds S1 => ∃ i : Int, ds = [.int i] ∧ 0 ≤ i ∧ i ≤ 100000 ∧ QA ((List.range i.toNat).map fun j => D.int (j : Nat)) S1)
    (hs : starEach [a] X.env = [(false, eval a X.env)] := by rfl) : wI Γ X B tg (.Call (.Name "range" p) [a] [] pos) ρ S QA :=
  iR1 G hg hm (h.mono fun ds S1 ⟨i, e, h0, h1, q⟩ => ⟨i.toNat, by rw [e, Int.toNat_of_nonneg h0], by omega, q⟩) hs
theorem and_leZ {a b : Int} {p : Prop} (h : a ≤ b) (q : p) : a ≤ b ∧ p := ⟨h, q⟩
end
end CR

end

section
namespace CR
open PySem PySem.Spec PyProof.Rows L2
def tKeysS (te : TE) : TE := fun σ H Q => te σ H fun x H1 => ∃ (d : Addr) (kvs : List (Key × V)) (ks : List Str), x = .ref d ∧ H1 d = some (.dK kvs) ∧ kvs.map (·.1) = ks.map Sum.inr ∧ ks.length < 64 ∧ ∀ ys l, ys.Perm ks → sortedS ys = true → H1 l = none → Q (.ref l) (upd H1 l (.lst (ys.map V.str)))
section
variable {X : Cx} {e : Expr} {te : TE} {p apos cpos pos : Pos}
theorem pe_sortedKeys (hc : X.calm = true) (he : PE X e te) (hg : Gl X "sorted") (hm : X.mg "sorted" = none) (hv : bootBuiltins "sorted" = some (.builtin "sorted")) (hbase : attributeBase e "keys" X.env (eval e X.env) = eval e X.env := by rfl) (hline : (apos.endLine == cpos.line) = true := by rfl)
    (hs : starEach [.Call (.Attribute e "keys" apos) [] [] cpos] X.env = (false, eval (.Call (.Attribute e "keys" apos) [] [] cpos) X.env) :: starEach [] X.env := by rfl) :
    PE X (.Call (.Name "sorted" p) [.Call (.Attribute e "keys" apos) [] [] cpos] [] pos) (tKeysS te) := by
  refine ⟨fun pins s σ H Q I hq => ?_⟩
  refine wpAny_Call_Name_kw (ld_blt I hg hm hv ?_)
  refine PyProof.Rows.callWith_builtin1 ?_ hs rfl
  rw [hs]
  show wpAny _ _ (spliced ((false, eval (.Call (.Attribute e "keys" apos) [] [] cpos) X.env) :: backTo pos (starEach [] X.env))) _ _ s
  refine Calls.spliced_cons ?_
  refine wpAny_Call_method (T := "dict") (id := "dict.keys") hbase rfl hline F.plainAttrs_dict F.slot_dict_keys F.type_dict_keys (thn (he.run pins s σ H _ I hq) fun u s1 ⟨x, H1, I1, rx, d, kvs, ks, ex, hd, hks, h64, q⟩ => ?_)
  subst ex
  obtain rfl : u = Value.ref d := rx
  obtain ⟨hz, hs0, vs, kv, hdo⟩ := I1.hok d _ hd
  obtain ⟨ep, hat⟩ := hdo.dictAt
  have lk : kvs.length = vs.length := Paired.length kv
  have I2 : Inv X pins σ H1 { s1 with heap := s1.heap.push { cls := .type "dict_keys", data := .fields #[.ref d] } } := I1.kept (t' := s1.toks) fun b ob q => Heap.get?_push_of_some _ q
  refine ⟨hdo.typeIs, hdo.mapOf.noDict, ?_⟩
  show wpAny _ _ (callWith cpos (.builtin "dict.keys") [.ref d] [] []) _ X.xe s1
  refine method_meetsIn F.slot_dict_keys F.entry_dict_keys rfl (PySem.evalArgs_none ⟨rfl, hdo.typeIs, F.args_dict_keys_1 _, _, PySem.W.kdl_meets_keys (mixKind X.prog X.w) d hs0, ⟨vs, hdo⟩, ?_⟩)
  refine Calls.spliced_nil ?_
  have hkeys : vs.map (·.1) = ks.map Sum.inr := (KV.keys kv).symm.trans hks
  have hl : vs.length = ks.length := by
    have e := congrArg List.length hkeys
    rw [List.length_map, List.length_map] at e
    exact e
  have h16 : vs.length ≤ sizeLine := by rw [hl, sizeLine_eq]; omega
  refine Calls.call_function_entry PyProof.Rows.kind_sorted PyProof.Rows.plain_sorted PyProof.Rows.entry_sorted (PyProof.Rows.args_sorted1 _) ?_
  unfold Builtin.«sorted»
  refine wpAny_bind (m := checkCount "sorted" 1 1 _) (wpAny_pure ?_)
  refine wpAny_bind (PySem.W.kdu_collect (A := X.A.in1) (PySem.W.kdl_keys (knd := mixKind X.prog X.w) (r := s1.heap.objs.size) (d := d) (kvs := vs) (ep := ep)) (I1.ok.hd hc) ⟨⟨_, Heap.get?_push_size _ rfl, rfl, rfl⟩, hat.push _⟩ h16 fun h' tk acc hk hacc => ?_)
  have hal : acc.toList.length = ks.length := by rw [Array.length_toList, hacc.1, hl]
  have hS : StrsAre acc.toList ks := strs_at hal fun j v e => by
    obtain ⟨k, x, e1, e2⟩ := hacc.2 j v (by rw [← Array.getElem?_toList]; exact e)
    have e3 : (vs.map (·.1))[j]? = some k := by rw [List.getElem?_map, e1]; all_goals rfl
    rw [hkeys, List.getElem?_map] at e3
    cases e4 : ks[j]? with
    | none => rw [e4] at e3; cases e3
    | some y =>
      rw [e4] at e3
      have e5 : Sum.inr y = k := Option.some.inj e3
      subst e5
      obtain ⟨t, ev⟩ := Value.isStrOf_shape (x := y) (v := v) e2
      exact ⟨y, t, rfl, ev⟩
  have I3 : Inv X pins σ H1 { s1 with heap := h', toks := tk } := I2.kept hk
  refine wpAny_bind (wpAny_newList ?_ (by rw [hal, sizeLine_eq]; omega))
  have hoL : (h'.push (seqObj "list" acc.toList.toArray 0)).get? h'.objs.size = some (seqObj "list" acc.toList.toArray 0) := Heap.get?_push_size _ rfl
  show wpAny _ _ _ _ _ { s1 with heap := h'.push (seqObj "list" acc.toList.toArray 0), toks := tk }
  refine wpAny_bind (wpAny_holding (wpAny_call_entry PyProof.Rows.slot_list_sort ⟨_, hoL, rfl⟩ PyProof.Rows.entry_list_sort
    (list_sort_treeK strKind_oneLt (s := { s1 with heap := h'.push (seqObj "list" acc.toList.toArray 0), toks := tk }) hoL hS.keysOf (fun v₁ v₂ rest e => keyKind_strs (by rw [← e]; exact hS)) (by rw [hal]; exact h64) fun st' hp hs => ⟨_, rfl, ?_⟩)
    (PyProof.Rows.args_list_sort _)))
  obtain ⟨ys, g1, g2, g3⟩ := sorted_out_str hS hp hs
  obtain ⟨e', he'⟩ := PyProof.Rows.sortedHeap_at (vs := acc.toList) (out := (arrOf st').map (·.2)) hoL
  have hlen : (ys.map V.str).length ≤ sizeLine := by
    rw [List.length_map, g2.length_eq]
    exact Nat.le_trans (Nat.le_of_lt h64) (by decide)
  refine wpAny_pure ⟨_, rfl, .ref h'.objs.size, upd H1 h'.objs.size (.lst (ys.map V.str)), I3.laid (t' := tk) (fun b u e => ?_) (Nat.le_refl _)
    (show ObjOk X.prog X.w _ _ _ (.lst (ys.map V.str)) from ⟨hlen, ((arrOf st').map (·.2)).toList, e', vals_of_strs g1, by rw [Array.toArray_toList]; exact he'⟩), rfl, q ys _ g2 g3 (I3.hok.fresh (Nat.le_refl _))⟩
  have hb : b < h'.objs.size := Heap.lt_size e
  rw [PyProof.Rows.sortedHeap_old (Nat.ne_of_lt hb) (by rw [size_push']; exact Nat.lt_succ_of_lt hb)]
  exact Heap.get?_push_of_some _ e
end
section
variable {Γ : Wd} {X : Cx} {B : Bs} {e : Expr} {ρ : List Sl} {S : Sto} {N : List Str} {nm : List (Str × NameKind)} {k : Nat} {E : EK} {pos p apos cpos : Pos}
variable {F H : Hp} {Q : D → Sto → Prop}
/-- sorted(e.keys()), a dict of the store whose keys are texts -/
theorem eSortedKeys (G : Gd Γ X N nm k B E) (hg : Kd nm "sorted" .globalImplicit) (hm : Γ.mg ("sorted" : Str) = none) (h : wE Γ X B e ρ S fun x S1 => ∃ q kvs ns, x = .ref q ∧ S1 q = some (.dct kvs) ∧ kvs.map (·.1) = ns.map (fun t : List Nat => (.inr ⟨t.toArray⟩ : Key)) ∧ ns.length < 64 ∧ ∀ ms : List (List Nat), ms.Perm ns → sortedS (ms.map fun t => ⟨t.toArray⟩) = true → Q (.lst (ms.map .str)) S1)
    (hbase : attributeBase e "keys" X.env (eval e X.env) = eval e X.env := by rfl) (hline : (apos.endLine == cpos.line) = true := by rfl)
    (hs : starEach [.Call (.Attribute e "keys" apos) [] [] cpos] X.env = (false, eval (.Call (.Attribute e "keys" apos) [] [] cpos) X.env) :: starEach [] X.env := by rfl) :
    wE Γ X B (.Call (.Name "sorted" p) [.Call (.Attribute e "keys" apos) [] [] cpos] [] pos) ρ S Q := .mk fun F H σ c => by
  refine (pe_sortedKeys (te := tW X e) G.calm pe_w (G.gl (hg.lk G.uq)) (by rw [G.hm]; exact hm) (by decide +kernel) hbase hline hs).tw ?_
  refine (h.run F H σ c).mono fun v H1 ⟨F1, d, S1, A1, g1, r1, q, kvs, ns, e1, e2, e3, h64, hq⟩ => ?_
  subst e1
  cases r1
  obtain ⟨hf, vs, hH, rk⟩ := A1.at_dct e2
  have back : ∀ (ys : List Str), (ys.map fun s => s.cps.toList).map (fun t => (⟨t.toArray⟩ : Str)) = ys := fun ys => by
    rw [List.map_map]
    exact List.map_id'' (fun s => by simp) ys
  refine ⟨q, vs, ns.map fun t => ⟨t.toArray⟩, rfl, hH, by rw [rk.keys, e3, List.map_map]; rfl, by rw [List.length_map]; exact h64, fun ys l hp h2 hl => ?_⟩
  have hp2 : (ys.map fun s => s.cps.toList).Perm ns := by
    have := hp.map fun s : Str => s.cps.toList
    rwa [List.map_map, show ((fun s : Str => s.cps.toList) ∘ fun t : List Nat => (⟨t.toArray⟩ : Str)) = id from funext fun t => by simp, List.map_id] at this
  refine VQ.trans g1 (VQ.new A1 hl (.lst upd_same ?_) (hq (ys.map fun s => s.cps.toList) hp2 (by rw [back]; exact h2)))
  have z := RepL.of_strs (K := Γ.K) (F := upd F1 l (.lst (ys.map V.str))) (ys.map fun s => s.cps.toList)
  rw [show (fun s : List Nat => V.str ⟨s.toArray⟩) = V.str ∘ (fun t : List Nat => (⟨t.toArray⟩ : Str)) from rfl, ← List.map_map, back] at z
  exact z
theorem Pu.mono1 : ∀ {n : Nat} {d : D}, Pu n d → Pu (n + 1) d
  | _, _, .non => .non
  | _, _, .bl _ => .bl _
  | _, _, .int _ => .int _
  | _, _, .str h => .str h
  | _, _, .lst h => .lst fun x hx => (h x hx).mono1
  | _, _, .tup h => .tup fun x hx => (h x hx).mono1
/-- a slice of a tuple -/
theorem slcTA {xs : List D} {lo hi : Option Int} (G : Gd Γ X N nm k B E) : SlcR Γ X (.tup xs) lo hi (.tup (cutD xs lo hi)) := ⟨_, sl_tupA, fun S F H v Qv A rv q => by
  cases rv with
  | tup h1 r1 =>
    refine ⟨_, _, rfl, by rw [G.hK]; exact ex_sqt A.ex h1, fun w => ?_, fun _ p hp => ?_⟩
    · obtain ⟨w1, w2⟩ := w
      have e : cutD xs lo hi = xs := by
        unfold cutD
        rw [r1.length] at w1 w2
        rw [w1, w2]
        simp
      rw [e] at q
      exact q _ F H A (Grow.refl S F H) (.tup h1 r1)
    · refine q _ _ _ (A.frozen hp) (A.g_frozen hp) (.tup (SqT.of upd_same) ?_)
      refine RepL.mono (Evl.Ex.new (A.fnone hp)) ?_
      unfold cutV cutD
      rw [r1.length]
      exact (r1.drop _).take _⟩
theorem cutD_from1 {x y z : D} : cutD [x, y, z] (some 1) none = [y, z] := rfl
theorem cutD_to2 {x y z : D} : cutD [x, y, z] none (some 2) = [x, y] := rfl
end
end CR

end

section
namespace CR
open PySem PySem.Spec PyProof.Rows L2
section
variable {Γ : Wd} {X : Cx} {B : Bs} {e a b : Expr} {es : List Expr} {ρ : List Sl} {S : Sto} {N : List Str} {nm : List (Str × NameKind)} {k : Nat} {E : EK} {pos p px pl pos' : Pos} {x : Str}
variable {F H : Hp} {Q : D → Sto → Prop} {Dd : Dn}
theorem ixN_nat {n j : Nat} (h : j < n) : ixN n (j : Int) = some j := by
  unfold ixN
  simp
  omega
/-- xs[i] = e, xs a list of the store -/
theorem sLstW (G : Gd Γ X N nm k B E) (h : wE Γ X B e ρ S fun v S1 => wE Γ X B a ρ S1 fun y S2 => wE Γ X B b ρ S2 fun z S3 => ∃ q xs n, y = .ref q ∧ S3 q = some (.lst xs) ∧ z = .int ((n : Nat) : Int) ∧ n < xs.length ∧ Dd.nx ρ (put S3 q (.lst (xs.set n v))))
    (hs : swapsWithSole [.Subscript a b pos'] e pos.line X.env = pure false := by rfl) (hw : swappedStores [.Subscript a b pos'] e X.env = pure none := by rfl) (h1 : (assignEach [.Subscript a b pos'] X.env).map (·.2) = [assign (.Subscript a b pos') X.env] := by rfl)
    (ha : ∀ v, assign (.Subscript a b pos') X.env v = (do
      let ov ← holding [v] (eval a X.env)
      let iv ← holding [v, ov] (eval b X.env)
      standAt pos'
      holding [v, ov, iv] (setItem ov iv v)
      release [v, ov, iv] []) := by intro _; rfl) : wS Γ X B (.Assign [.Subscript a b pos'] e pos) ρ S Dd := .mk fun F H σ c => by
  refine (ps_asg pe_w (pg_sub pe_w pe_w set_list ha) hs hw h1).tw ((h.run F H σ c).mono fun v H1 ⟨F1, d, S1, A1, g1, r1, h2⟩ => ?_)
  have c1 := c.grow A1 g1
  refine (h2.run F1 H1 σ c1).mono fun u H2 ⟨F2, y, S2, A2, g2, r2, h3⟩ => ?_
  have c2 := c1.grow A2 g2
  refine (h3.run F2 H2 σ c2).mono fun w H3 ⟨F3, z, S3, A3, g3, r3, q, xs, n, e1, e2, e3, e4, nx⟩ => ?_
  subst e1 e3
  cases r2
  cases r3
  have c3 := c2.grow A3 g3
  obtain ⟨hf, vs, hH, rk⟩ := A3.st q _ e2
  refine ⟨q, vs, _, n, rfl, rfl, hH, ixN_nat (by rw [rk.length]; exact e4), ?_⟩
  have g4 := A3.g_write (o := .lst (vs.set n v)) (u' := .lst (xs.set n d)) e2
  have A4 := A3.write (o := .lst (vs.set n v)) (u' := .lst (xs.set n d)) e2 ⟨_, upd_same, rk.set ((r1.mono g2.ex).mono g3.ex) n⟩
  exact ⟨ρ, _, F3, c3.grow A4 g4, g1.ex.trans (g2.ex.trans (g3.ex.trans g4.ex)), nx⟩
/-- x = [e, ..], a list of the store, of which the caller knows nothing -/
theorem sNewL {fu : Sl → List Sl} (G : Gs Γ X N nm k B E) (hu : UpF N x ρ fu) (hx : Kd nm x .local ∨ Kd nm x .cell) (h : wA Γ X B es ρ S fun xs S1 => xs.length ≤ 100000 ∧ ∀ a, S1 a = none → B.H a = none → Dd.nx (fu (.val (.ref a))) (put S1 a (.lst xs)))
    (hs : swapsWith (.List es pl) (some (.Name x px)) pos.line X.env = pure false := by rfl) : wS Γ X B (.Assign [.Name x px] (.List es pl) pos) ρ S Dd := by
  obtain ⟨i, h1, h2⟩ := hu.ix
  refine .mk fun F H σ c => ?_
  have hx' : nm.lookup x = some .local ∨ nm.lookup x = some .cell := hx.imp (Kd.lk G.g.uq) (Kd.lk G.g.uq)
  refine (ps_set (i := i) (by rw [G.g.hN]; exact G.g.nd) (by rw [G.g.hN]; exact h1) (by unfold L2.Loc; rw [G.g.hn]; exact hx') (pe_lst pa_w) hs (.inl (G.fn x))).tw ?_
  refine (h.run F H σ c).mono fun vs H1 ⟨F1, xs, S1, A1, g1, r1, hl, q⟩ => ?_
  refine ⟨sz_le (by rw [r1.length]; exact hl), fun p hp => ?_⟩
  have c1 := c.grow A1 g1
  have A2 := (A1.loose (o := .lst vs) hp).take (u := .lst xs) ⟨vs, upd_same, r1⟩ (A1.fnone hp)
  have g2 : Grow S1 F1 H1 (put S1 p (.lst xs)) F1 (upd H1 p (.lst vs)) := A1.g_take hp
  have c2 := c1.grow A2 g2
  refine ⟨_, put S1 p (.lst xs), F1, ⟨A2, c2.2.1.set i (.ref p), c2.2.2⟩, g1.ex, ?_⟩
  rw [h2]
  exact q p (A1.snone hp) (c1.2.2.back hp)
end
end CR

end

section
namespace CR
open PySem PySem.Spec PyProof.Rows L2
theorem op_mul_few {X : Cx} : OpR X (binaryOp .Mult) (fun x y H Q => ∃ (c n : Nat), x = .str ⟨#[c]⟩ ∧ y = .int (n : Int) ∧ n ≤ 1 ∧ Q (.str ⟨(List.replicate n c).toArray⟩) H) := by
  intro pins s σ H x y v u Q I rx ry h
  obtain ⟨c, n, rfl, rfl, h1, q⟩ := h
  obtain ⟨t, rfl⟩ := rx
  obtain ⟨t', rfl⟩ := ry
  have hl : (⟨#[c]⟩ : Str).length = 1 := rfl
  by_cases h0 : n = 0
  · subst h0
    exact PySem.P.mul_str_none (by decide) (by decide) ⟨.str ⟨#[]⟩, H, I.tok _, ⟨_, rfl⟩, q⟩
  · obtain rfl : n = 1 := by omega
    refine PySem.P.mul_str (by decide) (fun _ h => ?_) (fun _ h => ?_) ?_
    · rw [show ((((1 : Nat) : Int) == 1) = true) from rfl] at h
      cases h
    · rw [show ((((1 : Nat) : Int) == 1) = true) from rfl] at h
      cases h
    · rw [if_neg (by decide), if_pos (c := ((((1 : Nat) : Int) == 1 || (⟨#[c]⟩ : Str).length == 0) = true)) rfl]
      exact ⟨.str ⟨#[c]⟩, H, I, ⟨_, rfl⟩, q⟩
theorem mulS1 {Γ : Wd} {X : Cx} {c n : Nat} (h1 : n ≤ 1) : BinR Γ X .Mult (.str [c]) (.int (n : Int)) (.str (List.replicate n c)) := ⟨_, op_mul_few, op2_id fun K F H v u Qv e rv ru q => by
  cases rv
  cases ru
  exact ⟨c, n, rfl, rfl, h1, q _ fun _ => .str _⟩⟩
theorem mulSA {Γ : Wd} {X : Cx} {c n : Nat} (h : n ≤ 100000) : BinR Γ X .Mult (.str [c]) (.int (n : Int)) (.str (List.replicate n c)) := by
  by_cases h1 : n ≤ 1
  · exact mulS1 h1
  · exact mulS (by omega) h
end CR

end

section
namespace Hd
open PySem PySem.Spec PyProof.Rows L2 CR
def top (i : Nat) : Stmt := PySem.Challenge.pw_caretrows_k23_whole_wished.main.body.getD i (.Pass ⟨0, 0, 0, 0⟩)
abbrev s__wall : Stmt := top 0
abbrev s_is_text : Stmt := top 11
abbrev s_look_text : Stmt := top 12
abbrev s_look_width : Stmt := top 13
abbrev s_wide : Stmt := top 14
abbrev s_Row_init : Stmt := inClass (top 15) 0
abbrev s_Row_told : Stmt := inClass (top 15) 1
abbrev s_fitting : Stmt := top 16
abbrev s_row_end : Stmt := top 17
abbrev s_paragraph_rows : Stmt := top 18
abbrev s_paragraphs : Stmt := top 19
abbrev s_rows_of : Stmt := top 20
abbrev s_row_at : Stmt := top 22
abbrev s_column_of : Stmt := top 23
abbrev s_offset_at : Stmt := top 24
abbrev s_look_offset : Stmt := top 25
abbrev s_is_soft_end : Stmt := top 26
abbrev s_Sheet_init : Stmt := inClass (top 32) 0
abbrev s_Sheet_text : Stmt := inClass (top 32) 1
abbrev s_Sheet_rows : Stmt := inClass (top 32) 2
abbrev s_Sheet_at : Stmt := inClass (top 32) 3
abbrev s_Sheet_chosen : Stmt := inClass (top 32) 4
abbrev s_Sheet_chosen_text : Stmt := inClass (top 32) 5
abbrev s_Sheet_put : Stmt := inClass (top 32) 6
abbrev s_Sheet_scroll : Stmt := inClass (top 32) 7
abbrev s_Sheet_go : Stmt := inClass (top 32) 8
abbrev s_Sheet_choose : Stmt := inClass (top 32) 9
abbrev s_Sheet_point : Stmt := inClass (top 32) 10
abbrev s_Sheet_is_letter : Stmt := inClass (top 32) 11
abbrev s_Sheet_word_right : Stmt := inClass (top 32) 12
abbrev s_Sheet_word_left : Stmt := inClass (top 32) 13
abbrev s_Sheet_flat_goal : Stmt := inClass (top 32) 14
abbrev s_Sheet_move : Stmt := inClass (top 32) 15
abbrev s_Sheet_move_rows : Stmt := inClass (top 32) 16
abbrev s_Sheet_change : Stmt := inClass (top 32) 17
abbrev s_Sheet_set_between : Stmt := inClass (top 32) 18
abbrev s_Sheet_write : Stmt := inClass (top 32) 19
abbrev s_Sheet_erase : Stmt := inClass (top 32) 20
abbrev s_Sheet_resize : Stmt := inClass (top 32) 21
abbrev s_Sheet_mark : Stmt := inClass (top 32) 22
abbrev s_Sheet_marks : Stmt := inClass (top 32) 23
abbrev s_Sheet_view : Stmt := inClass (top 32) 24
abbrev s_carried : Stmt := top 33
abbrev s__law_cell : Stmt := top 35
abbrev s__law_mix : Stmt := top 36
abbrev s__law_draw : Stmt := top 37
abbrev s__law_pick : Stmt := top 38
abbrev s_law : Stmt := top 39
def d__wall : He.DefD := ⟨("_wall", none), "_wall", "_wall", defArgs s__wall, defBody s__wall, defScope s__wall, [], []⟩
def d_is_text : He.DefD := ⟨("is_text", none), "is_text", "is_text", defArgs s_is_text, defBody s_is_text, defScope s_is_text, [], []⟩
def d_look_text : He.DefD := ⟨("look_text", none), "look_text", "look_text", defArgs s_look_text, defBody s_look_text, defScope s_look_text, [], []⟩
def d_look_width : He.DefD := ⟨("look_width", none), "look_width", "look_width", defArgs s_look_width, defBody s_look_width, defScope s_look_width, [], []⟩
def d_wide : He.DefD := ⟨("wide", none), "wide", "wide", defArgs s_wide, defBody s_wide, defScope s_wide, [], []⟩
def d_Row_init : He.DefD := ⟨("Row", some "__init__"), "__init__", "Row.__init__", defArgs s_Row_init, defBody s_Row_init, defScope s_Row_init, [], []⟩
def d_Row_told : He.DefD := ⟨("Row", some "told"), "told", "Row.told", defArgs s_Row_told, defBody s_Row_told, defScope s_Row_told, [], []⟩
def d_fitting : He.DefD := ⟨("fitting", none), "fitting", "fitting", defArgs s_fitting, defBody s_fitting, defScope s_fitting, [], []⟩
def d_row_end : He.DefD := ⟨("row_end", none), "row_end", "row_end", defArgs s_row_end, defBody s_row_end, defScope s_row_end, [], []⟩
def d_paragraph_rows : He.DefD := ⟨("paragraph_rows", none), "paragraph_rows", "paragraph_rows", defArgs s_paragraph_rows, defBody s_paragraph_rows, defScope s_paragraph_rows, [], []⟩
def d_paragraphs : He.DefD := ⟨("paragraphs", none), "paragraphs", "paragraphs", defArgs s_paragraphs, defBody s_paragraphs, defScope s_paragraphs, [], []⟩
def d_rows_of : He.DefD := ⟨("rows_of", none), "rows_of", "rows_of", defArgs s_rows_of, defBody s_rows_of, defScope s_rows_of, [], []⟩
def d_row_at : He.DefD := ⟨("row_at", none), "row_at", "row_at", defArgs s_row_at, defBody s_row_at, defScope s_row_at, [], []⟩
def d_column_of : He.DefD := ⟨("column_of", none), "column_of", "column_of", defArgs s_column_of, defBody s_column_of, defScope s_column_of, [], []⟩
def d_offset_at : He.DefD := ⟨("offset_at", none), "offset_at", "offset_at", defArgs s_offset_at, defBody s_offset_at, defScope s_offset_at, [], []⟩
def d_look_offset : He.DefD := ⟨("look_offset", none), "look_offset", "look_offset", defArgs s_look_offset, defBody s_look_offset, defScope s_look_offset, [], []⟩
def d_is_soft_end : He.DefD := ⟨("is_soft_end", none), "is_soft_end", "is_soft_end", defArgs s_is_soft_end, defBody s_is_soft_end, defScope s_is_soft_end, [], []⟩
def d_Sheet_init : He.DefD := ⟨("Sheet", some "__init__"), "__init__", "Sheet.__init__", defArgs s_Sheet_init, defBody s_Sheet_init, defScope s_Sheet_init, [], []⟩
def d_Sheet_text : He.DefD := ⟨("Sheet", some "text"), "text", "Sheet.text", defArgs s_Sheet_text, defBody s_Sheet_text, defScope s_Sheet_text, [], []⟩
def d_Sheet_rows : He.DefD := ⟨("Sheet", some "rows"), "rows", "Sheet.rows", defArgs s_Sheet_rows, defBody s_Sheet_rows, defScope s_Sheet_rows, [], []⟩
def d_Sheet_at : He.DefD := ⟨("Sheet", some "at"), "at", "Sheet.at", defArgs s_Sheet_at, defBody s_Sheet_at, defScope s_Sheet_at, [], []⟩
def d_Sheet_chosen : He.DefD := ⟨("Sheet", some "chosen"), "chosen", "Sheet.chosen", defArgs s_Sheet_chosen, defBody s_Sheet_chosen, defScope s_Sheet_chosen, [], []⟩
def d_Sheet_chosen_text : He.DefD := ⟨("Sheet", some "chosen_text"), "chosen_text", "Sheet.chosen_text", defArgs s_Sheet_chosen_text, defBody s_Sheet_chosen_text, defScope s_Sheet_chosen_text, [], []⟩
def d_Sheet_put : He.DefD := ⟨("Sheet", some "put"), "put", "Sheet.put", defArgs s_Sheet_put, defBody s_Sheet_put, defScope s_Sheet_put, [], []⟩
def d_Sheet_scroll : He.DefD := ⟨("Sheet", some "scroll"), "scroll", "Sheet.scroll", defArgs s_Sheet_scroll, defBody s_Sheet_scroll, defScope s_Sheet_scroll, [], []⟩
def d_Sheet_go : He.DefD := ⟨("Sheet", some "go"), "go", "Sheet.go", defArgs s_Sheet_go, defBody s_Sheet_go, defScope s_Sheet_go, [], []⟩
def d_Sheet_choose : He.DefD := ⟨("Sheet", some "choose"), "choose", "Sheet.choose", defArgs s_Sheet_choose, defBody s_Sheet_choose, defScope s_Sheet_choose, [], []⟩
def d_Sheet_point : He.DefD := ⟨("Sheet", some "point"), "point", "Sheet.point", defArgs s_Sheet_point, defBody s_Sheet_point, defScope s_Sheet_point, [], []⟩
def d_Sheet_is_letter : He.DefD := ⟨("Sheet", some "is_letter"), "is_letter", "Sheet.is_letter", defArgs s_Sheet_is_letter, defBody s_Sheet_is_letter, defScope s_Sheet_is_letter, [], []⟩
def d_Sheet_word_right : He.DefD := ⟨("Sheet", some "word_right"), "word_right", "Sheet.word_right", defArgs s_Sheet_word_right, defBody s_Sheet_word_right, defScope s_Sheet_word_right, [], []⟩
def d_Sheet_word_left : He.DefD := ⟨("Sheet", some "word_left"), "word_left", "Sheet.word_left", defArgs s_Sheet_word_left, defBody s_Sheet_word_left, defScope s_Sheet_word_left, [], []⟩
def d_Sheet_flat_goal : He.DefD := ⟨("Sheet", some "flat_goal"), "flat_goal", "Sheet.flat_goal", defArgs s_Sheet_flat_goal, defBody s_Sheet_flat_goal, defScope s_Sheet_flat_goal, [], []⟩
def d_Sheet_move : He.DefD := ⟨("Sheet", some "move"), "move", "Sheet.move", defArgs s_Sheet_move, defBody s_Sheet_move, defScope s_Sheet_move, [], []⟩
def d_Sheet_move_rows : He.DefD := ⟨("Sheet", some "move_rows"), "move_rows", "Sheet.move_rows", defArgs s_Sheet_move_rows, defBody s_Sheet_move_rows, defScope s_Sheet_move_rows, [], []⟩
def d_Sheet_change : He.DefD := ⟨("Sheet", some "change"), "change", "Sheet.change", defArgs s_Sheet_change, defBody s_Sheet_change, defScope s_Sheet_change, [], []⟩
def d_Sheet_set_between : He.DefD := ⟨("Sheet", some "set_between"), "set_between", "Sheet.set_between", defArgs s_Sheet_set_between, defBody s_Sheet_set_between, defScope s_Sheet_set_between, [], []⟩
def d_Sheet_write : He.DefD := ⟨("Sheet", some "write"), "write", "Sheet.write", defArgs s_Sheet_write, defBody s_Sheet_write, defScope s_Sheet_write, [], []⟩
def d_Sheet_erase : He.DefD := ⟨("Sheet", some "erase"), "erase", "Sheet.erase", defArgs s_Sheet_erase, defBody s_Sheet_erase, defScope s_Sheet_erase, [], []⟩
def d_Sheet_resize : He.DefD := ⟨("Sheet", some "resize"), "resize", "Sheet.resize", defArgs s_Sheet_resize, defBody s_Sheet_resize, defScope s_Sheet_resize, [], []⟩
def d_Sheet_mark : He.DefD := ⟨("Sheet", some "mark"), "mark", "Sheet.mark", defArgs s_Sheet_mark, defBody s_Sheet_mark, defScope s_Sheet_mark, [], []⟩
def d_Sheet_marks : He.DefD := ⟨("Sheet", some "marks"), "marks", "Sheet.marks", defArgs s_Sheet_marks, defBody s_Sheet_marks, defScope s_Sheet_marks, [], []⟩
def d_Sheet_view : He.DefD := ⟨("Sheet", some "view"), "view", "Sheet.view", defArgs s_Sheet_view, defBody s_Sheet_view, defScope s_Sheet_view, [], []⟩
def d_carried : He.DefD := ⟨("carried", none), "carried", "carried", defArgs s_carried, defBody s_carried, defScope s_carried, [], []⟩
def d__law_cell : He.DefD := ⟨("_law_cell", none), "_law_cell", "_law_cell", defArgs s__law_cell, defBody s__law_cell, defScope s__law_cell, [], []⟩
def d__law_mix : He.DefD := ⟨("_law_mix", none), "_law_mix", "_law_mix", defArgs s__law_mix, defBody s__law_mix, defScope s__law_mix, [], []⟩
def d__law_draw : He.DefD := ⟨("_law_draw", none), "_law_draw", "_law_draw", defArgs s__law_draw, defBody s__law_draw, defScope s__law_draw, [], []⟩
def d__law_pick : He.DefD := ⟨("_law_pick", none), "_law_pick", "_law_pick", defArgs s__law_pick, defBody s__law_pick, defScope s__law_pick, [], []⟩
def d_law : He.DefD := ⟨("law", none), "law", "law", defArgs s_law, defBody s_law, defScope s_law, [], []⟩
def fn : List He.DefD := [d__wall, d_is_text, d_look_text, d_look_width, d_wide, d_Row_init, d_Row_told, d_fitting, d_row_end, d_paragraph_rows, d_paragraphs, d_rows_of, d_row_at, d_column_of, d_offset_at, d_look_offset, d_is_soft_end, d_Sheet_init, d_Sheet_text, d_Sheet_rows, d_Sheet_at, d_Sheet_chosen, d_Sheet_chosen_text, d_Sheet_put, d_Sheet_scroll, d_Sheet_go, d_Sheet_choose, d_Sheet_point, d_Sheet_is_letter, d_Sheet_word_right, d_Sheet_word_left, d_Sheet_flat_goal, d_Sheet_move, d_Sheet_move_rows, d_Sheet_change, d_Sheet_set_between, d_Sheet_write, d_Sheet_erase, d_Sheet_resize, d_Sheet_mark, d_Sheet_marks, d_Sheet_view, d_carried, d__law_cell, d__law_mix, d__law_draw, d__law_pick, d_law]
def fa : List He.Fa := [.glo "_wall",
  .glo "is_text",
  .glo "look_text",
  .glo "look_width",
  .glo "wide",
  .glo "fitting",
  .glo "row_end",
  .glo "paragraph_rows",
  .glo "paragraphs",
  .glo "rows_of",
  .glo "row_at",
  .glo "column_of",
  .glo "offset_at",
  .glo "look_offset",
  .glo "is_soft_end",
  .glo "carried",
  .glo "_law_cell",
  .glo "_law_mix",
  .glo "_law_draw",
  .glo "_law_pick",
  .glo "law",
  .glo "Row",
  .cls "Row",
  .mkr "Row",
  .meth "Row" "told",
  .noat "Row" "end",
  .noat "Row" "is_soft",
  .noat "Row" "start",
  .glo "Sheet",
  .cls "Sheet",
  .mkr "Sheet",
  .meth "Sheet" "text",
  .meth "Sheet" "rows",
  .meth "Sheet" "at",
  .meth "Sheet" "chosen",
  .meth "Sheet" "chosen_text",
  .meth "Sheet" "put",
  .meth "Sheet" "scroll",
  .meth "Sheet" "go",
  .meth "Sheet" "choose",
  .meth "Sheet" "point",
  .meth "Sheet" "is_letter",
  .meth "Sheet" "word_right",
  .meth "Sheet" "word_left",
  .meth "Sheet" "flat_goal",
  .meth "Sheet" "move",
  .meth "Sheet" "move_rows",
  .meth "Sheet" "change",
  .meth "Sheet" "set_between",
  .meth "Sheet" "write",
  .meth "Sheet" "erase",
  .meth "Sheet" "resize",
  .meth "Sheet" "mark",
  .meth "Sheet" "marks",
  .meth "Sheet" "view",
  .noat "Sheet" "anchor",
  .noat "Sheet" "caret",
  .noat "Sheet" "first",
  .noat "Sheet" "height",
  .noat "Sheet" "is_back",
  .noat "Sheet" "marked",
  .noat "Sheet" "now",
  .noat "Sheet" "width",
  .noat "Sheet" "wish",
  .glo "CaretError",
  .exc "CaretError",
  .glo "BadText",
  .exc "BadText",
  .glo "BadSize",
  .exc "BadSize",
  .glo "BadPlace",
  .exc "BadPlace",
  .glo "BadMove",
  .exc "BadMove",
  .exm "CaretError" "CaretError" true,
  .exm "BadText" "CaretError" true,
  .exm "BadSize" "CaretError" true,
  .exm "BadPlace" "CaretError" true,
  .exm "BadMove" "CaretError" true,
  .int "MOST_TEXT" 2000,
  .int "MOST_WIDTH" 200,
  .str "GREAT" "ABCDEFGHIJKLMNOPQRSTUVWXYZ",
  .str "LETTERS" "abcdefghijklmnopqrstuvwxyzABCDEFGHIJKLMNOPQRSTUVWXYZ0123456789",
  .glo "MOVES",
  .glo "VERTICAL",
  .int "MOST_HEIGHT" 100,
  .free "ValueError",
  .free "abs",
  .free "all",
  .free "len",
  .free "list",
  .free "max",
  .free "min",
  .free "ord",
  .free "range",
  .free "sorted",
  .free "sum"]
def ex (K : PySem.W.Frag) : Bool := He.tupB K "MOVES" [.str "left", .str "right", .str "wordleft", .str "wordright", .str "up", .str "down", .str "pageup", .str "pagedown", .str "home", .str "end", .str "top", .str "bottom", .str "paraup", .str "paradown"] && He.tupB K "VERTICAL" [.str "up", .str "down", .str "pageup", .str "pagedown"] && kindsB K ["BadText", "BadSize", "BadPlace", "BadMove"]
def names0 : List PySem.Str := ["_wall", "CaretError", "BadText", "BadSize", "BadPlace", "BadMove", "MOST_TEXT", "MOST_WIDTH", "GREAT", "is_text", "look_text", "look_width", "wide", "Row", "fitting", "row_end", "paragraph_rows", "paragraphs", "rows_of", "row_at", "column_of", "offset_at", "look_offset", "is_soft_end", "LETTERS", "MOVES", "VERTICAL", "MOST_HEIGHT", "Sheet", "carried"]
def names1 : List PySem.Str := ["_law_cell", "_law_mix", "_law_draw", "_law_pick"]
def names : List PySem.Str := names0 ++ names1
abbrev R : PySem.W.OpenRow := PySem.W.OpenLaw.row PySem.Challenge.rw_caretrows_k23_whole_wished
abbrev hk : PySem.W.Hook := He.hookX 5 fa fn [] [] ex
def ob (s : PySem.W.SharedT) : He.AlX := He.obsX 5 fa fn [] [] ex (HandSHeadRun.getT s)
theorem ob_eq (s : PySem.W.SharedT) : ob s = hk.obs s.abs := He.obsX_eq (HandSHeadRun.getT_eq s)
theorem run (w : World) : HandSHeadRun.RunEq R (PySem.W.view R.prog [39]) hk ob 6000 names w := by
  intro os
  kernel_rfl
end Hd

end

section
namespace Hd
open PySem PySem.Spec PyProof.Rows L2 CR
theorem sc__wall : FnScope ["k"] ["k"] (defScope s__wall) := ⟨rfl, rfl, rfl, by decide +kernel, rfl, by decide +kernel, by decide +kernel⟩
theorem nm__wall : (defScope s__wall).names = ([("k", .local)] : List (Str × NameKind)) := rfl
theorem sc_is_text : FnScope ["text", "sign"] ["text"] (defScope s_is_text) := ⟨rfl, rfl, rfl, by decide +kernel, rfl, by decide +kernel, by decide +kernel⟩
abbrev nb_is_text_0 : List (Str × NameKind) := [(".0", .local), ("sign", .local), ("ord", .globalImplicit)]
theorem nm_is_text : (defScope s_is_text).names = ([("text", .local), ("len", .globalImplicit), ("MOST_TEXT", .globalImplicit), ("all", .globalImplicit)] : List (Str × NameKind)) := rfl
theorem sc_look_text : FnScope ["text"] ["text"] (defScope s_look_text) := ⟨rfl, rfl, rfl, by decide +kernel, rfl, by decide +kernel, by decide +kernel⟩
theorem nm_look_text : (defScope s_look_text).names = ([("text", .local), ("is_text", .globalImplicit), ("BadText", .globalImplicit)] : List (Str × NameKind)) := rfl
theorem sc_look_width : FnScope ["width"] ["width"] (defScope s_look_width) := ⟨rfl, rfl, rfl, by decide +kernel, rfl, by decide +kernel, by decide +kernel⟩
theorem nm_look_width : (defScope s_look_width).names = ([("width", .local), ("MOST_WIDTH", .globalImplicit), ("BadSize", .globalImplicit)] : List (Str × NameKind)) := rfl
theorem sc_wide : FnScope ["text", "sign"] ["text"] (defScope s_wide) := ⟨rfl, rfl, rfl, by decide +kernel, rfl, by decide +kernel, by decide +kernel⟩
abbrev nb_wide_0 : List (Str × NameKind) := [(".0", .local), ("sign", .local), ("GREAT", .globalImplicit)]
theorem nm_wide : (defScope s_wide).names = ([("text", .local), ("len", .globalImplicit)] : List (Str × NameKind)) := rfl
theorem sc_Row_init : FnScope ["self", "start", "end", "is_soft"] ["self", "start", "end", "is_soft"] (defScope s_Row_init) := ⟨rfl, rfl, rfl, by decide +kernel, rfl, by decide +kernel, by decide +kernel⟩
theorem nm_Row_init : (defScope s_Row_init).names = ([("self", .local), ("start", .local), ("end", .local), ("is_soft", .local)] : List (Str × NameKind)) := rfl
theorem sc_Row_told : FnScope ["self"] ["self"] (defScope s_Row_told) := ⟨rfl, rfl, rfl, by decide +kernel, rfl, by decide +kernel, by decide +kernel⟩
theorem nm_Row_told : (defScope s_Row_told).names = ([("self", .local)] : List (Str × NameKind)) := rfl
theorem sc_fitting : FnScope ["text", "start", "last", "width", "end", "room"] ["text", "start", "last", "width"] (defScope s_fitting) := ⟨rfl, rfl, rfl, by decide +kernel, rfl, by decide +kernel, by decide +kernel⟩
theorem nm_fitting : (defScope s_fitting).names = ([("text", .local), ("start", .local), ("last", .local), ("width", .local), ("end", .local), ("room", .local), ("wide", .globalImplicit)] : List (Str × NameKind)) := rfl
theorem sc_row_end : FnScope ["text", "start", "last", "width", "end", "cut"] ["text", "start", "last", "width"] (defScope s_row_end) := ⟨rfl, rfl, rfl, by decide +kernel, rfl, by decide +kernel, by decide +kernel⟩
theorem nm_row_end : (defScope s_row_end).names = ([("text", .local), ("start", .local), ("last", .local), ("width", .local), ("end", .local), ("cut", .local), ("fitting", .globalImplicit)] : List (Str × NameKind)) := rfl
theorem sc_paragraph_rows : FnScope ["text", "start", "last", "width", "found", "end"] ["text", "start", "last", "width"] (defScope s_paragraph_rows) := ⟨rfl, rfl, rfl, by decide +kernel, rfl, by decide +kernel, by decide +kernel⟩
theorem nm_paragraph_rows : (defScope s_paragraph_rows).names = ([("text", .local), ("start", .local), ("last", .local), ("width", .local), ("found", .local), ("end", .local), ("row_end", .globalImplicit), ("Row", .globalImplicit)] : List (Str × NameKind)) := rfl
theorem sc_paragraphs : FnScope ["text", "found", "start", "part"] ["text"] (defScope s_paragraphs) := ⟨rfl, rfl, rfl, by decide +kernel, rfl, by decide +kernel, by decide +kernel⟩
theorem nm_paragraphs : (defScope s_paragraphs).names = ([("text", .local), ("found", .local), ("start", .local), ("part", .local), ("len", .globalImplicit)] : List (Str × NameKind)) := rfl
theorem sc_rows_of : FnScope ["text", "width", "found", "start", "last"] ["text", "width"] (defScope s_rows_of) := ⟨rfl, rfl, rfl, by decide +kernel, rfl, by decide +kernel, by decide +kernel⟩
theorem nm_rows_of : (defScope s_rows_of).names = ([("text", .local), ("width", .local), ("found", .local), ("start", .local), ("last", .local), ("paragraphs", .globalImplicit), ("paragraph_rows", .globalImplicit)] : List (Str × NameKind)) := rfl
theorem sc_row_at : FnScope ["rows", "offset", "is_back", "k", "row"] ["rows", "offset", "is_back"] (defScope s_row_at) := ⟨rfl, rfl, rfl, by decide +kernel, rfl, by decide +kernel, by decide +kernel⟩
theorem nm_row_at : (defScope s_row_at).names = ([("rows", .local), ("offset", .local), ("is_back", .local), ("k", .local), ("row", .local), ("range", .globalImplicit), ("len", .globalImplicit)] : List (Str × NameKind)) := rfl
theorem sc_column_of : FnScope ["text", "row", "offset"] ["text", "row", "offset"] (defScope s_column_of) := ⟨rfl, rfl, rfl, by decide +kernel, rfl, by decide +kernel, by decide +kernel⟩
theorem nm_column_of : (defScope s_column_of).names = ([("text", .local), ("row", .local), ("offset", .local), ("wide", .globalImplicit)] : List (Str × NameKind)) := rfl
theorem sc_offset_at : FnScope ["text", "row", "column", "found", "offset"] ["text", "row", "column"] (defScope s_offset_at) := ⟨rfl, rfl, rfl, by decide +kernel, rfl, by decide +kernel, by decide +kernel⟩
theorem nm_offset_at : (defScope s_offset_at).names = ([("text", .local), ("row", .local), ("column", .local), ("found", .local), ("offset", .local), ("range", .globalImplicit), ("abs", .globalImplicit), ("column_of", .globalImplicit)] : List (Str × NameKind)) := rfl
theorem sc_look_offset : FnScope ["text", "offset"] ["text", "offset"] (defScope s_look_offset) := ⟨rfl, rfl, rfl, by decide +kernel, rfl, by decide +kernel, by decide +kernel⟩
theorem nm_look_offset : (defScope s_look_offset).names = ([("text", .local), ("offset", .local), ("len", .globalImplicit), ("BadPlace", .globalImplicit)] : List (Str × NameKind)) := rfl
theorem sc_is_soft_end : FnScope ["rows", "number", "offset", "row"] ["rows", "number", "offset"] (defScope s_is_soft_end) := ⟨rfl, rfl, rfl, by decide +kernel, rfl, by decide +kernel, by decide +kernel⟩
theorem nm_is_soft_end : (defScope s_is_soft_end).names = ([("rows", .local), ("number", .local), ("offset", .local), ("row", .local)] : List (Str × NameKind)) := rfl
theorem sc_Sheet_init : FnScope ["self", "text", "width", "height"] ["self", "text", "width", "height"] (defScope s_Sheet_init) := ⟨rfl, rfl, rfl, by decide +kernel, rfl, by decide +kernel, by decide +kernel⟩
theorem nm_Sheet_init : (defScope s_Sheet_init).names = ([("self", .local), ("text", .local), ("width", .local), ("height", .local), ("look_text", .globalImplicit), ("look_width", .globalImplicit), ("MOST_HEIGHT", .globalImplicit), ("BadSize", .globalImplicit)] : List (Str × NameKind)) := rfl
theorem sc_Sheet_text : FnScope ["self"] ["self"] (defScope s_Sheet_text) := ⟨rfl, rfl, rfl, by decide +kernel, rfl, by decide +kernel, by decide +kernel⟩
theorem nm_Sheet_text : (defScope s_Sheet_text).names = ([("self", .local)] : List (Str × NameKind)) := rfl
theorem sc_Sheet_rows : FnScope ["self"] ["self"] (defScope s_Sheet_rows) := ⟨rfl, rfl, rfl, by decide +kernel, rfl, by decide +kernel, by decide +kernel⟩
theorem nm_Sheet_rows : (defScope s_Sheet_rows).names = ([("self", .local), ("rows_of", .globalImplicit)] : List (Str × NameKind)) := rfl
theorem sc_Sheet_at : FnScope ["self", "rows", "number"] ["self"] (defScope s_Sheet_at) := ⟨rfl, rfl, rfl, by decide +kernel, rfl, by decide +kernel, by decide +kernel⟩
theorem nm_Sheet_at : (defScope s_Sheet_at).names = ([("self", .local), ("rows", .local), ("number", .local), ("row_at", .globalImplicit), ("column_of", .globalImplicit)] : List (Str × NameKind)) := rfl
theorem sc_Sheet_chosen : FnScope ["self"] ["self"] (defScope s_Sheet_chosen) := ⟨rfl, rfl, rfl, by decide +kernel, rfl, by decide +kernel, by decide +kernel⟩
theorem nm_Sheet_chosen : (defScope s_Sheet_chosen).names = ([("self", .local), ("min", .globalImplicit), ("max", .globalImplicit)] : List (Str × NameKind)) := rfl
theorem sc_Sheet_chosen_text : FnScope ["self"] ["self"] (defScope s_Sheet_chosen_text) := ⟨rfl, rfl, rfl, by decide +kernel, rfl, by decide +kernel, by decide +kernel⟩
theorem nm_Sheet_chosen_text : (defScope s_Sheet_chosen_text).names = ([("self", .local), ("_wall", .globalImplicit)] : List (Str × NameKind)) := rfl
theorem sc_Sheet_put : FnScope ["self", "offset", "is_back", "is_choosing", "rows", "number"] ["self", "offset", "is_back", "is_choosing"] (defScope s_Sheet_put) := ⟨rfl, rfl, rfl, by decide +kernel, rfl, by decide +kernel, by decide +kernel⟩
theorem nm_Sheet_put : (defScope s_Sheet_put).names = ([("self", .local), ("offset", .local), ("is_back", .local), ("is_choosing", .local), ("rows", .local), ("number", .local), ("row_at", .globalImplicit), ("is_soft_end", .globalImplicit)] : List (Str × NameKind)) := rfl
theorem sc_Sheet_scroll : FnScope ["self", "rows", "number"] ["self"] (defScope s_Sheet_scroll) := ⟨rfl, rfl, rfl, by decide +kernel, rfl, by decide +kernel, by decide +kernel⟩
theorem nm_Sheet_scroll : (defScope s_Sheet_scroll).names = ([("self", .local), ("rows", .local), ("number", .local), ("row_at", .globalImplicit), ("max", .globalImplicit), ("min", .globalImplicit), ("len", .globalImplicit)] : List (Str × NameKind)) := rfl
theorem sc_Sheet_go : FnScope ["self", "offset"] ["self", "offset"] (defScope s_Sheet_go) := ⟨rfl, rfl, rfl, by decide +kernel, rfl, by decide +kernel, by decide +kernel⟩
theorem nm_Sheet_go : (defScope s_Sheet_go).names = ([("self", .local), ("offset", .local), ("look_offset", .globalImplicit)] : List (Str × NameKind)) := rfl
theorem sc_Sheet_choose : FnScope ["self", "first", "last"] ["self", "first", "last"] (defScope s_Sheet_choose) := ⟨rfl, rfl, rfl, by decide +kernel, rfl, by decide +kernel, by decide +kernel⟩
theorem nm_Sheet_choose : (defScope s_Sheet_choose).names = ([("self", .local), ("first", .local), ("last", .local), ("_wall", .globalImplicit)] : List (Str × NameKind)) := rfl
theorem sc_Sheet_point : FnScope ["self", "row", "column", "is_choosing"] ["self", "row", "column", "is_choosing"] (defScope s_Sheet_point) := ⟨rfl, rfl, rfl, by decide +kernel, rfl, by decide +kernel, by decide +kernel⟩
theorem nm_Sheet_point : (defScope s_Sheet_point).names = ([("self", .local), ("row", .local), ("column", .local), ("is_choosing", .local), ("_wall", .globalImplicit)] : List (Str × NameKind)) := rfl
theorem sc_Sheet_is_letter : FnScope ["self", "offset"] ["self", "offset"] (defScope s_Sheet_is_letter) := ⟨rfl, rfl, rfl, by decide +kernel, rfl, by decide +kernel, by decide +kernel⟩
theorem nm_Sheet_is_letter : (defScope s_Sheet_is_letter).names = ([("self", .local), ("offset", .local), ("len", .globalImplicit), ("LETTERS", .globalImplicit)] : List (Str × NameKind)) := rfl
theorem sc_Sheet_word_right : FnScope ["self", "offset"] ["self", "offset"] (defScope s_Sheet_word_right) := ⟨rfl, rfl, rfl, by decide +kernel, rfl, by decide +kernel, by decide +kernel⟩
theorem nm_Sheet_word_right : (defScope s_Sheet_word_right).names = ([("self", .local), ("offset", .local), ("len", .globalImplicit)] : List (Str × NameKind)) := rfl
theorem sc_Sheet_word_left : FnScope ["self", "offset"] ["self", "offset"] (defScope s_Sheet_word_left) := ⟨rfl, rfl, rfl, by decide +kernel, rfl, by decide +kernel, by decide +kernel⟩
theorem nm_Sheet_word_left : (defScope s_Sheet_word_left).names = ([("self", .local), ("offset", .local)] : List (Str × NameKind)) := rfl
theorem sc_Sheet_flat_goal : FnScope ["self", "move", "end"] ["self", "move"] (defScope s_Sheet_flat_goal) := ⟨rfl, rfl, rfl, by decide +kernel, rfl, by decide +kernel, by decide +kernel⟩
theorem nm_Sheet_flat_goal : (defScope s_Sheet_flat_goal).names = ([("self", .local), ("move", .local), ("end", .local), ("max", .globalImplicit), ("min", .globalImplicit), ("len", .globalImplicit)] : List (Str × NameKind)) := rfl
theorem sc_Sheet_move : FnScope ["self", "move", "is_choosing", "first", "last", "rows", "row"] ["self", "move", "is_choosing"] (defScope s_Sheet_move) := ⟨rfl, rfl, rfl, by decide +kernel, rfl, by decide +kernel, by decide +kernel⟩
theorem nm_Sheet_move : (defScope s_Sheet_move).names = ([("self", .local), ("move", .local), ("is_choosing", .local), ("first", .local), ("last", .local), ("rows", .local), ("row", .local), ("MOVES", .globalImplicit), ("BadMove", .globalImplicit), ("VERTICAL", .globalImplicit), ("row_at", .globalImplicit)] : List (Str × NameKind)) := rfl
theorem sc_Sheet_move_rows : FnScope ["self", "many", "is_choosing", "rows", "number", "wish", "goal", "offset"] ["self", "many", "is_choosing"] (defScope s_Sheet_move_rows) := ⟨rfl, rfl, rfl, by decide +kernel, rfl, by decide +kernel, by decide +kernel⟩
theorem nm_Sheet_move_rows : (defScope s_Sheet_move_rows).names = ([("self", .local), ("many", .local), ("is_choosing", .local), ("rows", .local), ("number", .local), ("wish", .local), ("goal", .local), ("offset", .local), ("row_at", .globalImplicit), ("column_of", .globalImplicit), ("len", .globalImplicit), ("max", .globalImplicit), ("min", .globalImplicit), ("offset_at", .globalImplicit), ("is_soft_end", .globalImplicit)] : List (Str × NameKind)) := rfl
theorem sc_Sheet_change : FnScope ["self", "first", "last", "new"] ["self", "first", "last", "new"] (defScope s_Sheet_change) := ⟨rfl, rfl, rfl, by decide +kernel, rfl, by decide +kernel, by decide +kernel⟩
theorem nm_Sheet_change : (defScope s_Sheet_change).names = ([("self", .local), ("first", .local), ("last", .local), ("new", .local), ("is_text", .globalImplicit), ("BadText", .globalImplicit)] : List (Str × NameKind)) := rfl
theorem sc_Sheet_set_between : FnScope ["self", "first", "last", "new", "name"] ["self", "first", "last", "new"] (defScope s_Sheet_set_between) := ⟨rfl, rfl, rfl, by decide +kernel, rfl, by decide +kernel, by decide +kernel⟩
theorem nm_Sheet_set_between : (defScope s_Sheet_set_between).names = ([("self", .local), ("first", .local), ("last", .local), ("new", .local), ("name", .local), ("list", .globalImplicit), ("carried", .globalImplicit), ("len", .globalImplicit)] : List (Str × NameKind)) := rfl
theorem sc_Sheet_write : FnScope ["self", "new", "first", "last"] ["self", "new"] (defScope s_Sheet_write) := ⟨rfl, rfl, rfl, by decide +kernel, rfl, by decide +kernel, by decide +kernel⟩
theorem nm_Sheet_write : (defScope s_Sheet_write).names = ([("self", .local), ("new", .local), ("first", .local), ("last", .local), ("len", .globalImplicit)] : List (Str × NameKind)) := rfl
theorem sc_Sheet_erase : FnScope ["self", "move"] ["self", "move"] (defScope s_Sheet_erase) := ⟨rfl, rfl, rfl, by decide +kernel, rfl, by decide +kernel, by decide +kernel⟩
theorem nm_Sheet_erase : (defScope s_Sheet_erase).names = ([("self", .local), ("move", .local), ("_wall", .globalImplicit)] : List (Str × NameKind)) := rfl
theorem sc_Sheet_resize : FnScope ["self", "width", "height"] ["self", "width", "height"] (defScope s_Sheet_resize) := ⟨rfl, rfl, rfl, by decide +kernel, rfl, by decide +kernel, by decide +kernel⟩
theorem nm_Sheet_resize : (defScope s_Sheet_resize).names = ([("self", .local), ("width", .local), ("height", .local), ("_wall", .globalImplicit)] : List (Str × NameKind)) := rfl
theorem sc_Sheet_mark : FnScope ["self", "name", "offset"] ["self", "name", "offset"] (defScope s_Sheet_mark) := ⟨rfl, rfl, rfl, by decide +kernel, rfl, by decide +kernel, by decide +kernel⟩
theorem nm_Sheet_mark : (defScope s_Sheet_mark).names = ([("self", .local), ("name", .local), ("offset", .local), ("_wall", .globalImplicit)] : List (Str × NameKind)) := rfl
theorem sc_Sheet_marks : FnScope ["self", "name"] ["self"] (defScope s_Sheet_marks) := ⟨rfl, rfl, rfl, by decide +kernel, rfl, by decide +kernel, by decide +kernel⟩
abbrev nb_Sheet_marks_0 : List (Str × NameKind) := [(".0", .local), ("name", .local), ("self", .cell)]
theorem nm_Sheet_marks : (defScope s_Sheet_marks).names = ([("self", .cell), ("sorted", .globalImplicit)] : List (Str × NameKind)) := rfl
theorem sc_Sheet_view : FnScope ["self"] ["self"] (defScope s_Sheet_view) := ⟨rfl, rfl, rfl, by decide +kernel, rfl, by decide +kernel, by decide +kernel⟩
theorem nm_Sheet_view : (defScope s_Sheet_view).names = ([("self", .local), ("_wall", .globalImplicit)] : List (Str × NameKind)) := rfl
theorem sc_carried : FnScope ["offset", "first", "last", "many"] ["offset", "first", "last", "many"] (defScope s_carried) := ⟨rfl, rfl, rfl, by decide +kernel, rfl, by decide +kernel, by decide +kernel⟩
theorem nm_carried : (defScope s_carried).names = ([("offset", .local), ("first", .local), ("last", .local), ("many", .local)] : List (Str × NameKind)) := rfl
theorem sc__law_cell : FnScope ["_law_script", "_law_k"] ["_law_script", "_law_k"] (defScope s__law_cell) := ⟨rfl, rfl, rfl, by decide +kernel, rfl, by decide +kernel, by decide +kernel⟩
theorem nm__law_cell : (defScope s__law_cell).names = ([("_law_script", .local), ("_law_k", .local), ("len", .globalImplicit)] : List (Str × NameKind)) := rfl
theorem sc__law_mix : FnScope ["_law_script", "_law_k", "_law_number"] ["_law_script", "_law_k"] (defScope s__law_mix) := ⟨rfl, rfl, rfl, by decide +kernel, rfl, by decide +kernel, by decide +kernel⟩
theorem nm__law_mix : (defScope s__law_mix).names = ([("_law_script", .local), ("_law_k", .local), ("_law_number", .local), ("_law_cell", .globalImplicit)] : List (Str × NameKind)) := rfl
theorem sc__law_draw : FnScope ["_law_script", "_law_town", "_law_many"] ["_law_script", "_law_town", "_law_many"] (defScope s__law_draw) := ⟨rfl, rfl, rfl, by decide +kernel, rfl, by decide +kernel, by decide +kernel⟩
theorem nm__law_draw : (defScope s__law_draw).names = ([("_law_script", .local), ("_law_town", .local), ("_law_many", .local), ("_law_mix", .globalImplicit), ("len", .globalImplicit)] : List (Str × NameKind)) := rfl
theorem sc__law_pick : FnScope ["_law_script", "_law_town", "_law_some"] ["_law_script", "_law_town", "_law_some"] (defScope s__law_pick) := ⟨rfl, rfl, rfl, by decide +kernel, rfl, by decide +kernel, by decide +kernel⟩
theorem nm__law_pick : (defScope s__law_pick).names = ([("_law_script", .local), ("_law_town", .local), ("_law_some", .local), ("_law_draw", .globalImplicit), ("len", .globalImplicit)] : List (Str × NameKind)) := rfl
theorem sc_law : FnScope ["_law_script", "_law_town", "_law_k", "_law_rows", "_law_text", "_law_height", "_law_sheet", "_law_number", "_law_column", "_law_begun", "_law_move", "_law_many", "_law_goal", "_law_due", "_law_row"] ["_law_script"] (defScope s_law) := ⟨rfl, rfl, rfl, by decide +kernel, rfl, by decide +kernel, by decide +kernel⟩
abbrev nb_law_0 : List (Str × NameKind) := [(".0", .local), ("_law_k", .local), ("_law_pick", .globalImplicit), ("_law_script", .cell), ("_law_town", .cell)]
abbrev nb_law_1 : List (Str × NameKind) := [(".0", .local), ("_law_row", .local), ("len", .globalImplicit)]
theorem nm_law : (defScope s_law).names = ([("_law_script", .cell), ("_law_town", .cell), ("_law_k", .local), ("_law_rows", .local), ("_law_text", .local), ("_law_height", .local), ("_law_sheet", .local), ("_law_number", .local), ("_law_column", .local), ("_law_begun", .local), ("_law_move", .local), ("_law_many", .local), ("_law_goal", .local), ("_law_due", .local), ("range", .globalImplicit), ("_law_draw", .globalImplicit), ("Sheet", .globalImplicit), ("len", .globalImplicit), ("sum", .globalImplicit), ("_law_pick", .globalImplicit), ("min", .globalImplicit), ("max", .globalImplicit)] : List (Str × NameKind)) := rfl
end Hd

end

section
namespace Hd
open PySem PySem.Spec PyProof.Rows L2 CR
local macro_rules | `(tactic| ktf_call "At") => `(tactic| with_reducible (repeat (first | exact CR.At.hd | apply CR.At.tl)))
local macro_rules | `(tactic| ktf_call "Up") => `(tactic| with_reducible (repeat (first | exact CR.UpF.hd | apply CR.UpF.tl)))
local macro_rules | `(tactic| ktf_call "Kd") => `(tactic| with_reducible (repeat (first | exact CR.Kd.hd | apply CR.Kd.tl)))
local macro_rules | `(tactic| ktf_call "KdV") => `(tactic| first | (refine Or.inl ?_; ktf_call "Kd"; done) | (refine Or.inr (Or.inl ?_); ktf_call "Kd"; done) | (refine Or.inr (Or.inr ?_); ktf_call "Kd"; done))
local macro_rules | `(tactic| ktf_call "KdL") => `(tactic| first | (refine Or.inl ?_; ktf_call "Kd"; done) | (refine Or.inr ?_; ktf_call "Kd"; done))
local macro_rules | `(tactic| ktf_call "side") => `(tactic| first | with_reducible assumption | omega | (simp only [List.length_nil, List.length_cons, List.length_append, List.length_map, List.length_take, List.length_drop]; omega) | decide)
local macro_rules | `(tactic| ktf_call "St") => `(tactic| first | with_reducible assumption | with_reducible exact CR.put_same)
local macro_rules | `(tactic| ktf_call "C") => `(tactic| fail)
local macro_rules | `(tactic| ktf_call "O") => `(tactic| fail)
local macro_rules | `(tactic| ktf_call "E") => `(tactic| first
  | ((with_reducible show CR.wE _ _ _ (.Name _ _) _ _ _); refine CR.eN (by assumption) (by ktf_call "At") (by ktf_call "KdV") ?_)
  | refine CR.wE_int ?_
  | with_reducible refine CR.wE_sp ?_
  | with_reducible refine CR.wE_nl ?_
  | with_reducible refine CR.wE_em ?_
  | refine CR.wE_str ?_
  | refine CR.wE_bool ?_
  | refine CR.wE_none ?_
  | ((with_reducible show CR.wE _ _ _ (.Attribute (.Name _ _) _ _) _ _ _); refine Hd.eSelf (by assumption) (by with_reducible assumption) (by ktf_call "At") (by ktf_call "KdV") (by ktf_call "St") (by with_reducible constructor) ?_)
  | refine CR.wE_bin ?_
  | ((with_reducible show CR.wE _ _ _ (.Call (.Name _ _) _ _ _) _ _ _); refine CR.eCall (by assumption) (by with_reducible assumption) (by first | decide | omega) (by ktf_call "Kd") ?_)
  | (((with_reducible show CR.wE _ _ _ (.Call (.Name _ _) _ _ _) _ _ _); refine CR.eIsX (by assumption) (by ktf_call "Kd") (by with_reducible assumption) ?_))
  | ((with_reducible show CR.wE _ _ _ (.Call (.Name _ _) _ _ _) _ _ _); refine CR.eBltS (by assumption) (by with_reducible constructor) (by ktf_call "Kd") (by with_reducible assumption) ?_)
  | ((with_reducible show CR.wE _ _ _ (.Call (.Name _ _) _ _ _) _ _ _); refine CR.eBtyS (by assumption) (by with_reducible constructor) (by ktf_call "Kd") (by with_reducible assumption) ?_)
  | ((with_reducible show CR.wE _ _ _ (.Name _ _) _ _ _); refine CR.eGlob (by assumption) (by with_reducible assumption) (by ktf_call "Kd") ?_)
  | refine CR.wE_cmp ?_
  | refine CR.eChain ?_
  | refine CR.wE_slice ?_
  | refine CR.wE_subS ?_
  | refine CR.wE_tup ?_
  | refine CR.wE_lst ?_
  | refine CR.wE_neg ?_
  | refine CR.wE_if ?_
  | ((with_reducible show CR.wE _ _ _ (.Call (.Attribute _ _ _) _ _ _) _ _ _); refine CR.wE_meth0 (by assumption) (by with_reducible assumption) (by first | decide | omega) ?_)
  | ((with_reducible show CR.wE _ _ _ (.Call (.Attribute _ _ _) _ _ _) _ _ _); refine CR.wE_meth (by assumption) (by with_reducible assumption) (by first | decide | omega) ?_)
  | ((with_reducible show CR.wE _ _ _ (.Attribute _ _ _) _ _ _); refine CR.wE_fld (by assumption) ?_)
  | with_reducible refine CR.put2E ?_)
local macro_rules | `(tactic| ktf_call "T") => `(tactic| first
  | refine CR.wT_cmp ?_
  | refine CR.tChain ?_
  | refine CR.wT_not ?_
  | refine CR.wT_val (by assumption) ?_)
local macro_rules | `(tactic| ktf_call "S") => `(tactic| first
  | refine CR.wS_ret ?_
  | refine CR.wS_if ?_
  | ((with_reducible show CR.wS _ _ _ (.Assign [.Attribute _ _ _] _ _) _ _ _); refine Hd.sSelf (by assumption) (by with_reducible assumption) (by ktf_call "At") (by ktf_call "KdV") ?_)
  | ((with_reducible show CR.wS _ _ _ (.Assign [.Name _ _] (.List _ _) _) _ _ _); refine CR.sOwn (es := []) (by assumption) (by ktf_call "Up") (by ktf_call "KdL") ?_)
  | ((with_reducible show CR.wS _ _ _ (.Expr (.Call (.Attribute _ _ _) _ _ _) _) _ _ _); refine CR.sApp (by assumption) (by ktf_call "At") (by ktf_call "Up") (by ktf_call "KdV") ?_)
  | ((with_reducible show CR.wS _ _ _ (.Expr (.Call (.Attribute _ _ _) _ _ _) _) _ _ _); refine CR.sExt (by assumption) (by ktf_call "At") (by ktf_call "Up") (by ktf_call "KdV") ?_)
  | ((with_reducible show CR.wS _ _ _ (.Assign [.Name _ _] _ _) _ _ _); refine CR.sSet (by assumption) (by ktf_call "Up") (by ktf_call "KdL") ?_)
  | ((with_reducible show CR.wS _ _ _ (.Raise _ _ _) _ _ _); refine CR.sRaise (by assumption) (by with_reducible assumption) (by ktf_call "Kd") ?_)
  | refine CR.wS_expr ?_
  | refine CR.wS_pass ?_
  | refine CR.wS_retN ?_)
local macro_rules | `(tactic| ktf_call "SS") => `(tactic| first
  | with_reducible refine CR.put2S ?_
  | refine CR.wSs_cons ?_
  | refine CR.wSs_nil ?_)
local macro_rules | `(tactic| ktf_call "OB") => `(tactic| first
  | ((with_reducible show CR.BltS _ _ _ _ [.str _] _); with_reducible refine CR.bltSR (CR.lenS (by ktf_call "side")) ?_) | ((with_reducible show CR.BltS _ _ _ _ [.lst _] _); with_reducible refine CR.bltSR (CR.lenL (by assumption)) ?_) | ((with_reducible show CR.BltS _ _ _ _ [.tup _] _); with_reducible refine CR.bltSR (CR.lenT (by assumption)) ?_)
  | ((with_reducible show CR.BltS _ _ _ _ [.ref _] _); with_reducible refine CR.lenR (by with_reducible assumption) (by ktf_call "St") ?_)
  | with_reducible refine CR.bltSR (CR.min2N (by assumption)) ?_ | with_reducible refine CR.bltSR (CR.max2N (by assumption)) ?_
  | with_reducible refine CR.bltSR (CR.ordS) ?_ | with_reducible refine CR.bltSR (CR.absI) ?_ | with_reducible refine CR.bltSR (CR.max2 (by assumption)) ?_ | with_reducible refine CR.bltSR (CR.min2 (by assumption)) ?_
  | with_reducible refine CR.bltSR (CR.copyL (by assumption)) ?_
  | with_reducible refine CR.bltSR (CR.intI) ?_ | with_reducible refine CR.bltSR (CR.intB) ?_)
local macro_rules | `(tactic| ktf_call "OS") => `(tactic| first
  | ((with_reducible show CR.SubS _ _ _ (.str _) _ _); with_reducible refine CR.subSR (CR.subSn (by ktf_call "side") (by ktf_call "side")) ?_) | ((with_reducible show CR.SubS _ _ _ (.str _) _ _); with_reducible refine CR.subSR (CR.subSi (by ktf_call "side") (by ktf_call "side") (by ktf_call "side")) ?_) | ((with_reducible show CR.SubS _ _ _ (.lst _) _ _); with_reducible refine CR.subSR (CR.subLn (by assumption) (by ktf_call "side")) ?_) | ((with_reducible show CR.SubS _ _ _ (.tup _) _ _); with_reducible refine CR.subSR (CR.subTn (by assumption) (by ktf_call "side")) ?_))
local macro_rules | `(tactic| ktf_call "OA") => `(tactic| first
  | with_reducible refine CR.opI (CR.addI) ?_ | with_reducible refine CR.opI (CR.subI) ?_ | ((with_reducible show ∃ z, CR.BinR _ _ _ (.str _) _ z ∧ _); with_reducible refine CR.opI (CR.addS (by ktf_call "side")) ?_)
  | ((with_reducible show ∃ z, CR.BinR _ _ .Mult _ _ z ∧ _); refine CR.opI (CR.mulA (by ktf_call "side") (by ktf_call "side")) ?_) | ((with_reducible show ∃ z, CR.BinR _ _ .FloorDiv _ _ z ∧ _); refine CR.opI (CR.divA (by ktf_call "side") (by ktf_call "side")) ?_) | ((with_reducible show ∃ z, CR.BinR _ _ .Mod _ _ z ∧ _); refine CR.opI (CR.modI (by ktf_call "side")) ?_))
local macro_rules | `(tactic| ktf_call "OC") => `(tactic| first
  | with_reducible refine CR.opI (CR.ltI) ?_ | with_reducible refine CR.opI (CR.leI) ?_ | with_reducible refine CR.opI (CR.gtI) ?_ | with_reducible refine CR.opI (CR.geI) ?_ | with_reducible refine CR.opI (CR.eqI) ?_ | with_reducible refine CR.opI (CR.neI) ?_
  | with_reducible refine CR.opI (CR.eqS) ?_ | with_reducible refine CR.opI (CR.neS) ?_ | with_reducible refine CR.opI (CR.isN) ?_ | with_reducible refine CR.opI (CR.notN) ?_ | with_reducible refine CR.opI (CR.inC) ?_ | with_reducible refine CR.opI (CR.leS) ?_)
local macro_rules | `(tactic| ktf_call "OL") => `(tactic| first
  | ((with_reducible show ∃ z, CR.SlcR _ _ (.str _) (some _) (some _) z ∧ _); with_reducible refine CR.opI (CR.slcN (by ktf_call "side") (by ktf_call "side") (by ktf_call "side")) ?_)
  | ((with_reducible show ∃ z, CR.SlcR _ _ (.str _) none _ z ∧ _); with_reducible refine CR.opI (CR.slcTo (by ktf_call "side") (by ktf_call "side")) ?_) | ((with_reducible show ∃ z, CR.SlcR _ _ (.str _) _ none z ∧ _); with_reducible refine CR.opI (CR.slcFrom (by ktf_call "side") (by ktf_call "side")) ?_) | ((with_reducible show ∃ z, CR.SlcR _ _ (.str _) _ _ z ∧ _); with_reducible refine CR.opI (CR.slcS (by ktf_call "side")) ?_) | with_reducible refine CR.opI (CR.slcL (by assumption)) ?_)
local macro_rules | `(tactic| ktf_call "AA") => `(tactic| first | refine CR.wA_nil ?_ | refine CR.wA_cons ?_ | with_reducible refine CR.put2A ?_)
local macro_rules | `(tactic| ktf_call "M") => `(tactic| first
  | ((with_reducible show CR.Recv _ _ _ _ ∧ _); with_reducible refine And.intro (Hd.recvS (by ktf_call "St") (by with_unfolding_all rfl)) ?_)
  | ((with_reducible show ∃ s d s', _ ∧ Hd.ShW s _ _ s' ∧ _); with_reducible refine Hd.shwO (by ktf_call "St") (by with_reducible constructor) ?_)
  | with_reducible refine CR.fldO (by with_reducible assumption) (by with_unfolding_all rfl) ?_
  | ((with_reducible show ∃ C' fs' d', ((∃ a, CR.D.ref _ = CR.D.ref a ∧ _) ∨ _) ∧ _); with_reducible refine CR.fldR (by ktf_call "St") (by with_reducible assumption) (by with_unfolding_all rfl) ?_)
  | with_reducible refine ⟨_, CR.TruD.bl _, ?_⟩
  | ((with_reducible show @LE.le _ _ _ _ ∧ _); with_reducible refine CR.and_le (by ktf_call "side") ?_) | ((with_reducible show @LT.lt _ _ _ _ ∧ _); with_reducible refine CR.and_lt (by ktf_call "side") ?_)
  | ((with_reducible apply CR.pureI); focus (intro Q q; ktf_call "go"; exact q))
  | with_reducible refine ⟨_, _, _, _, rfl, by assumption, by assumption, ?_⟩
  | refine CR.wP_none ?_ | (refine CR.wP_some ?_) | refine CR.opI rfl ?_)
local macro_rules | `(tactic| ktf_call "one") => `(tactic| first
  | (refine CR.isE ?_; ktf_call "E")
  | (refine CR.isA ?_; ktf_call "AA")
  | (refine CR.isBlt ?_; ktf_call "OB")
  | (refine CR.isSub ?_; ktf_call "OS")
  | (refine CR.isBin ?_; ktf_call "OA")
  | (refine CR.isCmp ?_; first | ktf_call "O" | ktf_call "OC")
  | (refine CR.isSlc ?_; ktf_call "OL"))
local macro_rules | `(tactic| ktf_call "goE") => `(tactic| repeat (first | ktf_call "one" | ktf_call "C" | ktf_call "M"))
local macro_rules | `(tactic| ktf_call "go") => `(tactic| repeat (first | (refine CR.isSs ?_; ktf_call "SS") | (refine CR.isS ?_; first | with_reducible refine CR.put2s ?_ | ktf_call "S") | ktf_call "one" | (refine CR.isT ?_; first | with_reducible refine CR.put2T ?_ | ktf_call "T") | ktf_call "C" | ktf_call "M"))
local macro_rules | `(tactic| ktf_call ("bz", $h:ident)) => `(tactic| simp only [Bool.and_eq_true, Bool.or_eq_true, Bool.not_eq_true', Bool.not_eq_false', decide_eq_true_eq, decide_eq_false_iff_not, Bool.and_eq_false_iff, Bool.or_eq_false_iff, Int.ofNat_lt, Int.ofNat_le, Int.natCast_inj, CR.s_blank, CR.s_nl, CR.s_empty, CR.str_one] at $h:ident)

variable {Γ : Wd} {k : Nat} {f : Addr} {fd : FuncData}
inductive spCell : FnS
  | mk {ns : List Int} {i : Nat} {S : Sto} {Q : D → Sto → Prop} {E : Addr → Sto → Prop} (q : ∀ n, Q (.int n) S) : spCell [.scr ns, .int i] S Q E
theorem ok_cell (F : FunD Γ.K "_law_cell" "_law_cell" (defArgs s__law_cell) (defBody s__law_cell) (defScope s__law_cell) [] [] f fd) (b_len : Γ.mg "len" = none) : OkD Γ 1 f fd ["_law_script", "_law_k"] spCell := by
  refine okD F sc__law_cell nm__law_cell (by decide +kernel) (fun ds S Q E h => by cases h; rfl) (fun X B ds Q E G h => ?_)
  have Gg := G.g
  cases h with
  | @mk ns i _ _ _ q =>
    show wSs Γ X B _ [.val (.scr ns), .val (.int i)] B.S _
    ktf_call "go"
    refine ⟨_, CR.TruD.scr _, fun hz => ?_, fun hz => ?_⟩
    · have hp : 0 < ns.length := by
        cases ns with
        | nil => cases hz
        | cons x r => simp
      ktf_call "go"
      refine bltSR (lenC Gg) ?_
      ktf_call "go"
      have z := atI_getD (xs := ns) (i := (i : Int) % (ns.length : Nat)) (Int.emod_nonneg _ (by omega)) (Int.emod_lt_of_pos _ (by omega)) 0
      refine subSR (subC Gg z) ?_
      exact q _
    · ktf_call "go"
      exact q _
local macro_rules | `(tactic| ktf_call "C") => `(tactic| refine spCell.mk ?_)
inductive spMix : FnS
  | mk {ns : List Int} {i : Nat} {S : Sto} {Q : D → Sto → Prop} {E : Addr → Sto → Prop} (h : i ≤ 100000) (q : ∀ n : Nat, Q (.int n) S) : spMix [.scr ns, .int i] S Q E
theorem ok_mix (F : FunD Γ.K "_law_mix" "_law_mix" (defArgs s__law_mix) (defBody s__law_mix) (defScope s__law_mix) [] [] f fd) (h_cell : Fn Γ "_law_cell" 1 spCell) : OkD Γ 2 f fd ["_law_script", "_law_k"] spMix := by
  refine okD F sc__law_mix nm__law_mix (by decide +kernel) (fun ds S Q E h => by cases h; rfl) (fun X B ds Q E G h => ?_)
  have Gg := G.g
  cases h with
  | @mk ns i _ _ _ hi q =>
    show wSs Γ X B _ [.val (.scr ns), .val (.int i), .no] B.S _
    ktf_call "go"
    intro n
    ktf_call "go"
    have r1 : ∀ x : Int, 0 ≤ x % 4294967291 ∧ x % 4294967291 < 4294967291 := fun x => ⟨Int.emod_nonneg _ (by decide), Int.emod_lt_of_pos _ (by decide)⟩
    have r2 : ∀ x : Int, 0 ≤ x % 4294967279 ∧ x % 4294967279 < 4294967279 := fun x => ⟨Int.emod_nonneg _ (by decide), Int.emod_lt_of_pos _ (by decide)⟩
    refine opI (powA (r1 _).1 (by have := (r1 (n + 104729 * ((i : Int) + 1))).2; omega)) ?_
    ktf_call "go"
    generalize hx : ((n + 104729 * ((i : Int) + 1)) % 4294967291) ^ 5 % 4294967279 = y
    have := r2 (((n + 104729 * ((i : Int) + 1)) % 4294967291) ^ 5)
    rw [hx] at this
    ktf_call "go"
    have r3 : 0 ≤ (y / 64 * 69621 + y) % 4294967231 := Int.emod_nonneg _ (by decide)
    have z := q ((y / 64 * 69621 + y) % 4294967231).toNat
    rw [Int.toNat_of_nonneg r3] at z
    exact z
local macro_rules | `(tactic| ktf_call "C") => `(tactic| refine spMix.mk (by ktf_call "side") ?_)
/-- the town: a list of so many noughts -/
abbrev zs (m : Nat) : List D := List.replicate m (.int 0)
inductive spDraw : FnS
  | mk {ns : List Int} {a : Addr} {m : Nat} {many : Int} {S : Sto} {Q : D → Sto → Prop} {E : Addr → Sto → Prop} (h : S a = some (.lst (zs m))) (hm : m < 90000) (hp : 0 < many) (q : ∀ n : Nat, (n : Int) < many → Q (.int n) (put S a (.lst (zs (m + 1))))) : spDraw [.scr ns, .ref a, .int many] S Q E
theorem ok_draw (F : FunD Γ.K "_law_draw" "_law_draw" (defArgs s__law_draw) (defBody s__law_draw) (defScope s__law_draw) [] [] f fd) (h_mix : Fn Γ "_law_mix" 2 spMix) (b_len : Γ.mg "len" = none) : OkD Γ 3 f fd ["_law_script", "_law_town", "_law_many"] spDraw := by
  refine okD F sc__law_draw nm__law_draw (by decide +kernel) (fun ds S Q E h => by cases h; rfl) (fun X B ds Q E G h => ?_)
  have Gg := G.g
  cases h with
  | @mk ns a m many _ _ _ h hm hp q =>
    show wSs Γ X B _ [.val (.scr ns), .val (.ref a), .val (.int many)] B.S _
    refine wSs_cons (wS_expr (wE_bmS Gg ?_))
    ktf_call "go"
    refine ⟨_, _, m_append, tyRef h, ?_⟩
    ktf_call "go"
    refine appS h (by rw [List.length_replicate]; omega) ?_
    rw [show zs m ++ [D.int 0] = zs (m + 1) from List.replicate_succ'.symm]
    ktf_call "go"
    refine spMix.mk (by rw [List.length_replicate]; omega) (fun n => ?_)
    ktf_call "go"
    have r3 : 0 ≤ ((n : Int) / 8) % many := Int.emod_nonneg _ (by omega)
    have r4 : ((n : Int) / 8) % many < many := Int.emod_lt_of_pos _ (by omega)
    have z := q (((n : Int) / 8) % many).toNat (by omega)
    rw [Int.toNat_of_nonneg r3] at z
    exact z
local macro_rules | `(tactic| ktf_call "C") => `(tactic| fail)
inductive spPick : FnS
  | mk {ns : List Int} {a : Addr} {m : Nat} {xs : List D} {S : Sto} {Q : D → Sto → Prop} {E : Addr → Sto → Prop} (h : S a = some (.lst (zs m))) (hm : m < 90000) (hp : xs ≠ []) (q : ∀ d ∈ xs, Q d (put S a (.lst (zs (m + 1))))) : spPick [.scr ns, .ref a, .lst xs] S Q E
theorem ok_pick (F : FunD Γ.K "_law_pick" "_law_pick" (defArgs s__law_pick) (defBody s__law_pick) (defScope s__law_pick) [] [] f fd) (h_draw : Fn Γ "_law_draw" 3 spDraw) (b_len : Γ.mg "len" = none) : OkD Γ 4 f fd ["_law_script", "_law_town", "_law_some"] spPick := by
  refine okD F sc__law_pick nm__law_pick (by decide +kernel) (fun ds S Q E h => by cases h; rfl) (fun X B ds Q E G h => ?_)
  have Gg := G.g
  cases h with
  | @mk ns a m xs _ _ _ h hm hp q =>
    show wSs Γ X B _ [.val (.scr ns), .val (.ref a), .val (.lst xs)] B.S _
    have hl : 0 < xs.length := List.length_pos_iff.mpr hp
    ktf_call "go"
    refine spDraw.mk h hm (by omega) (fun n hn => ?_)
    have hn : n < xs.length := by omega
    refine subSR (subLn Gg hn) ?_
    refine q _ ?_
    rw [List.getD_eq_getElem?_getD, List.getElem?_eq_getElem hn]
    exact List.getElem_mem hn
end Hd

end

section
namespace Hd
open PySem PySem.Spec PyProof.Rows L2 CR
local macro_rules | `(tactic| ktf_call "At") => `(tactic| with_reducible (repeat (first | exact CR.At.hd | apply CR.At.tl)))
local macro_rules | `(tactic| ktf_call "Up") => `(tactic| with_reducible (repeat (first | exact CR.UpF.hd | apply CR.UpF.tl)))
local macro_rules | `(tactic| ktf_call "Kd") => `(tactic| with_reducible (repeat (first | exact CR.Kd.hd | apply CR.Kd.tl)))
local macro_rules | `(tactic| ktf_call "KdV") => `(tactic| first | (refine Or.inl ?_; ktf_call "Kd"; done) | (refine Or.inr (Or.inl ?_); ktf_call "Kd"; done) | (refine Or.inr (Or.inr ?_); ktf_call "Kd"; done))
local macro_rules | `(tactic| ktf_call "KdL") => `(tactic| first | (refine Or.inl ?_; ktf_call "Kd"; done) | (refine Or.inr ?_; ktf_call "Kd"; done))
local macro_rules | `(tactic| ktf_call "side") => `(tactic| first | with_reducible assumption | omega | (simp only [List.length_nil, List.length_cons, List.length_append, List.length_map, List.length_take, List.length_drop]; omega) | decide)
local macro_rules | `(tactic| ktf_call "St") => `(tactic| first | with_reducible assumption | with_reducible exact CR.put_same)
local macro_rules | `(tactic| ktf_call "C") => `(tactic| fail)
local macro_rules | `(tactic| ktf_call "O") => `(tactic| fail)
local macro_rules | `(tactic| ktf_call "E") => `(tactic| first
  | ((with_reducible show CR.wE _ _ _ (.Name _ _) _ _ _); refine CR.eN (by assumption) (by ktf_call "At") (by ktf_call "KdV") ?_)
  | refine CR.wE_int ?_
  | with_reducible refine CR.wE_sp ?_
  | with_reducible refine CR.wE_nl ?_
  | with_reducible refine CR.wE_em ?_
  | refine CR.wE_str ?_
  | refine CR.wE_bool ?_
  | refine CR.wE_none ?_
  | ((with_reducible show CR.wE _ _ _ (.Attribute (.Name _ _) _ _) _ _ _); refine Hd.eSelf (by assumption) (by with_reducible assumption) (by ktf_call "At") (by ktf_call "KdV") (by ktf_call "St") (by with_reducible constructor) ?_)
  | refine CR.wE_bin ?_
  | ((with_reducible show CR.wE _ _ _ (.Call (.Name _ _) _ _ _) _ _ _); refine CR.eCall (by assumption) (by with_reducible assumption) (by first | decide | omega) (by ktf_call "Kd") ?_)
  | (((with_reducible show CR.wE _ _ _ (.Call (.Name _ _) _ _ _) _ _ _); refine CR.eIsX (by assumption) (by ktf_call "Kd") (by with_reducible assumption) ?_))
  | ((with_reducible show CR.wE _ _ _ (.Call (.Name _ _) _ _ _) _ _ _); refine CR.eBltS (by assumption) (by with_reducible constructor) (by ktf_call "Kd") (by with_reducible assumption) ?_)
  | ((with_reducible show CR.wE _ _ _ (.Call (.Name _ _) _ _ _) _ _ _); refine CR.eBtyS (by assumption) (by with_reducible constructor) (by ktf_call "Kd") (by with_reducible assumption) ?_)
  | ((with_reducible show CR.wE _ _ _ (.Name _ _) _ _ _); refine CR.eGlob (by assumption) (by with_reducible assumption) (by ktf_call "Kd") ?_)
  | refine CR.wE_cmp ?_
  | refine CR.eChain ?_
  | refine CR.wE_slice ?_
  | refine CR.wE_subS ?_
  | refine CR.wE_tup ?_
  | refine CR.wE_lst ?_
  | refine CR.wE_neg ?_
  | refine CR.wE_if ?_
  | ((with_reducible show CR.wE _ _ _ (.Call (.Attribute _ _ _) _ _ _) _ _ _); refine CR.wE_meth0 (by assumption) (by with_reducible assumption) (by first | decide | omega) ?_)
  | ((with_reducible show CR.wE _ _ _ (.Call (.Attribute _ _ _) _ _ _) _ _ _); refine CR.wE_meth (by assumption) (by with_reducible assumption) (by first | decide | omega) ?_)
  | ((with_reducible show CR.wE _ _ _ (.Attribute _ _ _) _ _ _); refine CR.wE_fld (by assumption) ?_)
  | with_reducible refine CR.put2E ?_)
local macro_rules | `(tactic| ktf_call "T") => `(tactic| first
  | refine CR.wT_cmp ?_
  | refine CR.tChain ?_
  | refine CR.wT_not ?_
  | refine CR.wT_val (by assumption) ?_)
local macro_rules | `(tactic| ktf_call "S") => `(tactic| first
  | refine CR.wS_ret ?_
  | refine CR.wS_if ?_
  | ((with_reducible show CR.wS _ _ _ (.Assign [.Attribute _ _ _] _ _) _ _ _); refine Hd.sSelf (by assumption) (by with_reducible assumption) (by ktf_call "At") (by ktf_call "KdV") ?_)
  | ((with_reducible show CR.wS _ _ _ (.Assign [.Name _ _] (.List _ _) _) _ _ _); refine CR.sOwn (es := []) (by assumption) (by ktf_call "Up") (by ktf_call "KdL") ?_)
  | ((with_reducible show CR.wS _ _ _ (.Expr (.Call (.Attribute _ _ _) _ _ _) _) _ _ _); refine CR.sApp (by assumption) (by ktf_call "At") (by ktf_call "Up") (by ktf_call "KdV") ?_)
  | ((with_reducible show CR.wS _ _ _ (.Expr (.Call (.Attribute _ _ _) _ _ _) _) _ _ _); refine CR.sExt (by assumption) (by ktf_call "At") (by ktf_call "Up") (by ktf_call "KdV") ?_)
  | ((with_reducible show CR.wS _ _ _ (.Assign [.Name _ _] _ _) _ _ _); refine CR.sSet (by assumption) (by ktf_call "Up") (by ktf_call "KdL") ?_)
  | ((with_reducible show CR.wS _ _ _ (.Raise _ _ _) _ _ _); refine CR.sRaise (by assumption) (by with_reducible assumption) (by ktf_call "Kd") ?_)
  | refine CR.wS_expr ?_
  | refine CR.wS_pass ?_
  | refine CR.wS_retN ?_)
local macro_rules | `(tactic| ktf_call "SS") => `(tactic| first
  | with_reducible refine CR.put2S ?_
  | refine CR.wSs_cons ?_
  | refine CR.wSs_nil ?_)
local macro_rules | `(tactic| ktf_call "OB") => `(tactic| first
  | ((with_reducible show CR.BltS _ _ _ _ [.str _] _); with_reducible refine CR.bltSR (CR.lenS (by ktf_call "side")) ?_) | ((with_reducible show CR.BltS _ _ _ _ [.lst _] _); with_reducible refine CR.bltSR (CR.lenL (by assumption)) ?_) | ((with_reducible show CR.BltS _ _ _ _ [.tup _] _); with_reducible refine CR.bltSR (CR.lenT (by assumption)) ?_)
  | ((with_reducible show CR.BltS _ _ _ _ [.ref _] _); with_reducible refine CR.lenR (by with_reducible assumption) (by ktf_call "St") ?_)
  | with_reducible refine CR.bltSR (CR.min2N (by assumption)) ?_ | with_reducible refine CR.bltSR (CR.max2N (by assumption)) ?_
  | with_reducible refine CR.bltSR (CR.ordS) ?_ | with_reducible refine CR.bltSR (CR.absI) ?_ | with_reducible refine CR.bltSR (CR.max2 (by assumption)) ?_ | with_reducible refine CR.bltSR (CR.min2 (by assumption)) ?_
  | with_reducible refine CR.bltSR (CR.copyL (by assumption)) ?_
  | with_reducible refine CR.bltSR (CR.intI) ?_ | with_reducible refine CR.bltSR (CR.intB) ?_)
local macro_rules | `(tactic| ktf_call "OS") => `(tactic| first
  | ((with_reducible show CR.SubS _ _ _ (.str _) _ _); with_reducible refine CR.subSR (CR.subSn (by ktf_call "side") (by ktf_call "side")) ?_) | ((with_reducible show CR.SubS _ _ _ (.str _) _ _); with_reducible refine CR.subSR (CR.subSi (by ktf_call "side") (by ktf_call "side") (by ktf_call "side")) ?_) | ((with_reducible show CR.SubS _ _ _ (.lst _) _ _); with_reducible refine CR.subSR (CR.subLn (by assumption) (by ktf_call "side")) ?_) | ((with_reducible show CR.SubS _ _ _ (.tup _) _ _); with_reducible refine CR.subSR (CR.subTn (by assumption) (by ktf_call "side")) ?_))
local macro_rules | `(tactic| ktf_call "OA") => `(tactic| first
  | with_reducible refine CR.opI (CR.addI) ?_ | with_reducible refine CR.opI (CR.subI) ?_ | ((with_reducible show ∃ z, CR.BinR _ _ _ (.str _) _ z ∧ _); with_reducible refine CR.opI (CR.addS (by ktf_call "side")) ?_)
  | ((with_reducible show ∃ z, CR.BinR _ _ .Mult _ _ z ∧ _); refine CR.opI (CR.mulA (by ktf_call "side") (by ktf_call "side")) ?_) | ((with_reducible show ∃ z, CR.BinR _ _ .FloorDiv _ _ z ∧ _); refine CR.opI (CR.divA (by ktf_call "side") (by ktf_call "side")) ?_) | ((with_reducible show ∃ z, CR.BinR _ _ .Mod _ _ z ∧ _); refine CR.opI (CR.modI (by ktf_call "side")) ?_))
local macro_rules | `(tactic| ktf_call "OC") => `(tactic| first
  | with_reducible refine CR.opI (CR.ltI) ?_ | with_reducible refine CR.opI (CR.leI) ?_ | with_reducible refine CR.opI (CR.gtI) ?_ | with_reducible refine CR.opI (CR.geI) ?_ | with_reducible refine CR.opI (CR.eqI) ?_ | with_reducible refine CR.opI (CR.neI) ?_
  | with_reducible refine CR.opI (CR.eqS) ?_ | with_reducible refine CR.opI (CR.neS) ?_ | with_reducible refine CR.opI (CR.isN) ?_ | with_reducible refine CR.opI (CR.notN) ?_ | with_reducible refine CR.opI (CR.inC) ?_ | with_reducible refine CR.opI (CR.leS) ?_)
local macro_rules | `(tactic| ktf_call "OL") => `(tactic| first
  | ((with_reducible show ∃ z, CR.SlcR _ _ (.str _) (some _) (some _) z ∧ _); with_reducible refine CR.opI (CR.slcN (by ktf_call "side") (by ktf_call "side") (by ktf_call "side")) ?_)
  | ((with_reducible show ∃ z, CR.SlcR _ _ (.str _) none _ z ∧ _); with_reducible refine CR.opI (CR.slcTo (by ktf_call "side") (by ktf_call "side")) ?_) | ((with_reducible show ∃ z, CR.SlcR _ _ (.str _) _ none z ∧ _); with_reducible refine CR.opI (CR.slcFrom (by ktf_call "side") (by ktf_call "side")) ?_) | ((with_reducible show ∃ z, CR.SlcR _ _ (.str _) _ _ z ∧ _); with_reducible refine CR.opI (CR.slcS (by ktf_call "side")) ?_) | with_reducible refine CR.opI (CR.slcL (by assumption)) ?_)
local macro_rules | `(tactic| ktf_call "AA") => `(tactic| first | refine CR.wA_nil ?_ | refine CR.wA_cons ?_ | with_reducible refine CR.put2A ?_)
local macro_rules | `(tactic| ktf_call "M") => `(tactic| first
  | ((with_reducible show CR.Recv _ _ _ _ ∧ _); with_reducible refine And.intro (Hd.recvS (by ktf_call "St") (by with_unfolding_all rfl)) ?_)
  | ((with_reducible show ∃ s d s', _ ∧ Hd.ShW s _ _ s' ∧ _); with_reducible refine Hd.shwO (by ktf_call "St") (by with_reducible constructor) ?_)
  | with_reducible refine CR.fldO (by with_reducible assumption) (by with_unfolding_all rfl) ?_
  | ((with_reducible show ∃ C' fs' d', ((∃ a, CR.D.ref _ = CR.D.ref a ∧ _) ∨ _) ∧ _); with_reducible refine CR.fldR (by ktf_call "St") (by with_reducible assumption) (by with_unfolding_all rfl) ?_)
  | with_reducible refine ⟨_, CR.TruD.bl _, ?_⟩
  | ((with_reducible show @LE.le _ _ _ _ ∧ _); with_reducible refine CR.and_le (by ktf_call "side") ?_) | ((with_reducible show @LT.lt _ _ _ _ ∧ _); with_reducible refine CR.and_lt (by ktf_call "side") ?_)
  | ((with_reducible apply CR.pureI); focus (intro Q q; ktf_call "go"; exact q))
  | with_reducible refine ⟨_, _, _, _, rfl, by assumption, by assumption, ?_⟩
  | refine CR.wP_none ?_ | (refine CR.wP_some ?_) | refine CR.opI rfl ?_)
local macro_rules | `(tactic| ktf_call "one") => `(tactic| first
  | (refine CR.isE ?_; ktf_call "E")
  | (refine CR.isA ?_; ktf_call "AA")
  | (refine CR.isBlt ?_; ktf_call "OB")
  | (refine CR.isSub ?_; ktf_call "OS")
  | (refine CR.isBin ?_; ktf_call "OA")
  | (refine CR.isCmp ?_; first | ktf_call "O" | ktf_call "OC")
  | (refine CR.isSlc ?_; ktf_call "OL"))
local macro_rules | `(tactic| ktf_call "goE") => `(tactic| repeat (first | ktf_call "one" | ktf_call "C" | ktf_call "M"))
local macro_rules | `(tactic| ktf_call "go") => `(tactic| repeat (first | (refine CR.isSs ?_; ktf_call "SS") | (refine CR.isS ?_; first | with_reducible refine CR.put2s ?_ | ktf_call "S") | ktf_call "one" | (refine CR.isT ?_; first | with_reducible refine CR.put2T ?_ | ktf_call "T") | ktf_call "C" | ktf_call "M"))
local macro_rules | `(tactic| ktf_call ("bz", $h:ident)) => `(tactic| simp only [Bool.and_eq_true, Bool.or_eq_true, Bool.not_eq_true', Bool.not_eq_false', decide_eq_true_eq, decide_eq_false_iff_not, Bool.and_eq_false_iff, Bool.or_eq_false_iff, Int.ofNat_lt, Int.ofNat_le, Int.natCast_inj, CR.s_blank, CR.s_nl, CR.s_empty, CR.str_one] at $h:ident)

variable {Γ : Wd} {k : Nat} {f : Addr} {fd : FuncData}
abbrev FnP (Γ : Wd) (x : Str) (st : Stmt) (f : Addr) (fd : FuncData) : Prop := FunD Γ.K x x (defArgs st) (defBody st) (defScope st) [] [] f fd
def okC (c : Nat) : Bool := ((decide ((32 : Int) ≤ (c : Int)) && decide ((c : Int) < 127)) && !decide ((c : Int) = 37)) || decide ([c] = [10])
def isTextB (t : List Nat) : Bool := decide (t.length ≤ 2000) && t.all okC
theorem okC_iff (c : Nat) : okC c = true ↔ (32 ≤ c ∧ c < 127 ∧ c ≠ 37) ∨ c = 10 := by
  unfold okC
  rw [Bool.or_eq_true, Bool.and_eq_true, Bool.and_eq_true, Bool.not_eq_true', decide_eq_true_eq, decide_eq_true_eq, decide_eq_false_iff_not, decide_eq_true_eq]
  constructor
  · rintro (⟨⟨h1, h2⟩, h3⟩ | h)
    · left; omega
    · right; injection h
  · rintro (⟨h1, h2, h3⟩ | h)
    · left; omega
    · right; rw [h]
inductive spIsText : FnS
  | mk {t : List Nat} {S : Sto} {Q : D → Sto → Prop} {E : Addr → Sto → Prop} (h : t.length ≤ 100000) (q : Q (.bl (isTextB t)) S) : spIsText [.str t] S Q E
theorem map_bl {α : Type} {xs : List α} {g : α → Bool} : xs.map (fun c => D.bl (g c)) = (xs.map g).map D.bl := by rw [List.map_map]; rfl
theorem all_map {α : Type} {xs : List α} {g : α → Bool} : (xs.map g).all id = xs.all g := by rw [List.all_map]; rfl
theorem ok_is_text (F : FnP Γ "is_text" s_is_text f fd) (b_len : Γ.mg "len" = none) (b_all : Γ.mg "all" = none) (b_ord : Γ.mg "ord" = none) (gM : GlV Γ "MOST_TEXT" (.int 2000)) : OkD Γ 1 f fd ["text"] spIsText := by
  refine okD F sc_is_text nm_is_text (by decide +kernel) (fun ds S Q E h => by cases h; rfl) (fun X B ds Q E G h => ?_)
  have Gg := G.g
  cases h with
  | @mk t _ _ _ h1 q =>
    show wSs Γ X B _ [.val (.str t), .no] B.S _
    ktf_call "go"
    refine ⟨fun hz => ?_, fun hz => ?_⟩
    · ktf_call ("bz", hz)
      ktf_call "go"
      have e : isTextB t = false := by unfold isTextB; rw [decide_eq_false (by omega)]; rfl
      rw [e] at q
      exact q
    · ktf_call ("bz", hz)
      ktf_call "go"
      refine wE_lc Gg [("sign", 1)] (by decide +kernel) (wI_str ?_)
      ktf_call "go"
      refine lcM (nmb := nb_is_text_0) (h := fun c => .bl (okC c)) (by rfl) h1 (fun c => [.val (.str t), .val (.str [c])]) (fun c hc Xb Gb => gNm (i := 1) Gb rfl (by ktf_call "Kd") (by decide)) (fun c hc Xb Gb => ?g1) ?g2
      case g1 =>
        show pE Γ Xb B _ _ _ (.bl (okC c))
        refine pE_or (pE_and (fun Q q => ?g3) fun _ => pE_one fun Q q => ?g4) fun _ => pE_one fun Q q => ?g5
        case g3 =>
          ktf_call "go"
          exact q
        case g4 =>
          ktf_call "go"
          exact q
        case g5 =>
          ktf_call "go"
          exact q
      case g2 =>
        rw [map_bl]
        ktf_call "go"
        refine bltSR (allL Gg) ?_
        rw [all_map]
        have e : isTextB t = t.all okC := by unfold isTextB; rw [decide_eq_true (by omega)]; rfl
        rw [e] at q
        exact q
local macro_rules | `(tactic| ktf_call "C") => `(tactic| refine spIsText.mk (by ktf_call "side") ?_)
inductive spLookText (cT : Addr) : FnS
  | mk {t : List Nat} {S : Sto} {Q : D → Sto → Prop} {E : Addr → Sto → Prop} (h : t.length ≤ 100000) (q : isTextB t = true → Q .non S) (e : isTextB t = false → E cT S) : spLookText cT [.str t] S Q E
theorem ok_look_text {cT : Addr} (F : FnP Γ "look_text" s_look_text f fd) (h_is_text : Fn Γ "is_text" 1 spIsText) (xT : ExK Γ "BadText" cT) : OkD Γ 2 f fd ["text"] (spLookText cT) := by
  refine okD F sc_look_text nm_look_text (by decide +kernel) (fun ds S Q E h => by cases h; rfl) (fun X B ds Q E G h => ?_)
  have Gg := G.g
  cases h with
  | @mk t _ _ _ h1 q e =>
    show wSs Γ X B _ [.val (.str t)] B.S _
    ktf_call "go"
    refine ⟨fun hz => ?_, fun hz => ?_⟩
    · ktf_call ("bz", hz)
      ktf_call "go"
      exact e hz
    · ktf_call ("bz", hz)
      ktf_call "go"
      exact q hz
theorem isText_len {t : List Nat} (h : isTextB t = true) : t.length ≤ 2000 := by
  unfold isTextB at h
  rw [Bool.and_eq_true] at h
  exact of_decide_eq_true h.1
end Hd

end

section
namespace Hd
open PySem PySem.Spec PyProof.Rows L2 CR
variable {Γ : Wd} {k : Nat} {f : Addr} {fd : FuncData}
abbrev FnL (Γ : Wd) (x : Str) (st : Stmt) (f : Addr) (fd : FuncData) : Prop := FunD Γ.K x x (defArgs st) (defBody st) (defScope st) [] [] f fd
def okS (c : Nat) : Bool := (decide (32 ≤ c) && decide (c < 127) && !decide (c = 37)) || decide (c = 10)
def isW (n m : Nat) : D → Bool
  | .str w => (decide (w.length ≤ n) && decide (wgt w ≤ m)) && w.all okS
  | _ => false
theorem isW_get {n m : Nat} {xs : List D} (h : xs.all (isW n m) = true) {d : D} (hd : d ∈ xs) : ∃ w, d = .str w ∧ w.length ≤ n ∧ w.all okS = true ∧ wgt w ≤ m := by
  have := List.all_eq_true.mp h d hd
  cases d with
  | str w =>
    unfold isW at this
    rw [Bool.and_eq_true, Bool.and_eq_true] at this
    exact ⟨w, rfl, of_decide_eq_true this.1.1, this.2, of_decide_eq_true this.1.2⟩
  | _ => cases this
theorem okS_okC (c : Nat) : okS c = okC c := by
  have h := okC_iff c
  cases h1 : okC c with
  | true =>
    rw [h1] at h
    have := h.mp rfl
    unfold okS
    rcases this with ⟨a, b, e⟩ | e
    · rw [decide_eq_true a, decide_eq_true b, decide_eq_false e]; rfl
    · subst e; rfl
  | false =>
    rw [h1] at h
    unfold okS
    by_cases h2 : (32 ≤ c ∧ c < 127 ∧ c ≠ 37) ∨ c = 10
    · exact absurd (h.mpr h2) (by decide)
    · rw [Bool.or_eq_false_iff]
      refine ⟨?_, decide_eq_false (by omega)⟩
      by_cases a : 32 ≤ c
      · by_cases b : c < 127
        · rw [show c = 37 by omega]; rfl
        · rw [decide_eq_false b, Bool.and_false]; rfl
      · rw [decide_eq_false a]; rfl
theorem isText_of {t : List Nat} (h : t.length ≤ 2000) (ho : t.all okS = true) : isTextB t = true := by
  unfold isTextB
  rw [decide_eq_true h, Bool.true_and, ← ho]
  exact congrArg (fun g => t.all g) (funext fun c => (okS_okC c).symm)
theorem okS_lt {t : List Nat} (ho : t.all okS = true) : ∀ c ∈ t, c < 128 := fun c hc => by
  have := List.all_eq_true.mp ho c hc
  rw [okS_okC] at this
  have := (okC_iff c).mp this
  omega
theorem seg_mem {t : List Nat} {a b c : Nat} (h : c ∈ seg t a b) : c ∈ t := List.mem_of_mem_drop (List.mem_of_mem_take h)
theorem all_true {α : Type} (xs : List α) : (xs.map fun _ => true).all id = true := by
  rw [List.all_map]
  exact List.all_eq_true.mpr fun _ _ => rfl
end Hd

end

section
namespace Hd
open PySem PySem.Spec PyProof.Rows L2 CR
local macro_rules | `(tactic| ktf_call "At") => `(tactic| with_reducible (repeat (first | exact CR.At.hd | apply CR.At.tl)))
local macro_rules | `(tactic| ktf_call "Up") => `(tactic| with_reducible (repeat (first | exact CR.UpF.hd | apply CR.UpF.tl)))
local macro_rules | `(tactic| ktf_call "Kd") => `(tactic| with_reducible (repeat (first | exact CR.Kd.hd | apply CR.Kd.tl)))
local macro_rules | `(tactic| ktf_call "KdV") => `(tactic| first | (refine Or.inl ?_; ktf_call "Kd"; done) | (refine Or.inr (Or.inl ?_); ktf_call "Kd"; done) | (refine Or.inr (Or.inr ?_); ktf_call "Kd"; done))
local macro_rules | `(tactic| ktf_call "KdL") => `(tactic| first | (refine Or.inl ?_; ktf_call "Kd"; done) | (refine Or.inr ?_; ktf_call "Kd"; done))
local macro_rules | `(tactic| ktf_call "side") => `(tactic| first | with_reducible assumption | omega | (simp only [List.length_nil, List.length_cons, List.length_append, List.length_map, List.length_take, List.length_drop]; omega) | decide)
local macro_rules | `(tactic| ktf_call "St") => `(tactic| first | with_reducible assumption | with_reducible exact CR.put_same)
local macro_rules | `(tactic| ktf_call "C") => `(tactic| fail)
local macro_rules | `(tactic| ktf_call "O") => `(tactic| fail)
local macro_rules | `(tactic| ktf_call "E") => `(tactic| first
  | ((with_reducible show CR.wE _ _ _ (.Name _ _) _ _ _); refine CR.eN (by assumption) (by ktf_call "At") (by ktf_call "KdV") ?_)
  | refine CR.wE_int ?_
  | with_reducible refine CR.wE_sp ?_
  | with_reducible refine CR.wE_nl ?_
  | with_reducible refine CR.wE_em ?_
  | refine CR.wE_str ?_
  | refine CR.wE_bool ?_
  | refine CR.wE_none ?_
  | ((with_reducible show CR.wE _ _ _ (.Attribute (.Name _ _) _ _) _ _ _); refine Hd.eSelf (by assumption) (by with_reducible assumption) (by ktf_call "At") (by ktf_call "KdV") (by ktf_call "St") (by with_reducible constructor) ?_)
  | refine CR.wE_bin ?_
  | ((with_reducible show CR.wE _ _ _ (.Call (.Name _ _) _ _ _) _ _ _); refine CR.eCall (by assumption) (by with_reducible assumption) (by first | decide | omega) (by ktf_call "Kd") ?_)
  | (((with_reducible show CR.wE _ _ _ (.Call (.Name _ _) _ _ _) _ _ _); refine CR.eIsX (by assumption) (by ktf_call "Kd") (by with_reducible assumption) ?_))
  | ((with_reducible show CR.wE _ _ _ (.Call (.Name _ _) _ _ _) _ _ _); refine CR.eBltS (by assumption) (by with_reducible constructor) (by ktf_call "Kd") (by with_reducible assumption) ?_)
  | ((with_reducible show CR.wE _ _ _ (.Call (.Name _ _) _ _ _) _ _ _); refine CR.eBtyS (by assumption) (by with_reducible constructor) (by ktf_call "Kd") (by with_reducible assumption) ?_)
  | ((with_reducible show CR.wE _ _ _ (.Name _ _) _ _ _); refine CR.eGlob (by assumption) (by with_reducible assumption) (by ktf_call "Kd") ?_)
  | refine CR.wE_cmp ?_
  | refine CR.eChain ?_
  | refine CR.wE_slice ?_
  | refine CR.wE_subS ?_
  | refine CR.wE_tup ?_
  | refine CR.wE_lst ?_
  | refine CR.wE_neg ?_
  | refine CR.wE_if ?_
  | ((with_reducible show CR.wE _ _ _ (.Call (.Attribute _ _ _) _ _ _) _ _ _); refine CR.wE_meth0 (by assumption) (by with_reducible assumption) (by first | decide | omega) ?_)
  | ((with_reducible show CR.wE _ _ _ (.Call (.Attribute _ _ _) _ _ _) _ _ _); refine CR.wE_meth (by assumption) (by with_reducible assumption) (by first | decide | omega) ?_)
  | ((with_reducible show CR.wE _ _ _ (.Attribute _ _ _) _ _ _); refine CR.wE_fld (by assumption) ?_)
  | with_reducible refine CR.put2E ?_)
local macro_rules | `(tactic| ktf_call "T") => `(tactic| first
  | refine CR.wT_cmp ?_
  | refine CR.tChain ?_
  | refine CR.wT_not ?_
  | refine CR.wT_val (by assumption) ?_)
local macro_rules | `(tactic| ktf_call "S") => `(tactic| first
  | refine CR.wS_ret ?_
  | refine CR.wS_if ?_
  | ((with_reducible show CR.wS _ _ _ (.Assign [.Attribute _ _ _] _ _) _ _ _); refine Hd.sSelf (by assumption) (by with_reducible assumption) (by ktf_call "At") (by ktf_call "KdV") ?_)
  | ((with_reducible show CR.wS _ _ _ (.Assign [.Name _ _] (.List _ _) _) _ _ _); refine CR.sOwn (es := []) (by assumption) (by ktf_call "Up") (by ktf_call "KdL") ?_)
  | ((with_reducible show CR.wS _ _ _ (.Expr (.Call (.Attribute _ _ _) _ _ _) _) _ _ _); refine CR.sApp (by assumption) (by ktf_call "At") (by ktf_call "Up") (by ktf_call "KdV") ?_)
  | ((with_reducible show CR.wS _ _ _ (.Expr (.Call (.Attribute _ _ _) _ _ _) _) _ _ _); refine CR.sExt (by assumption) (by ktf_call "At") (by ktf_call "Up") (by ktf_call "KdV") ?_)
  | ((with_reducible show CR.wS _ _ _ (.Assign [.Name _ _] _ _) _ _ _); refine CR.sSet (by assumption) (by ktf_call "Up") (by ktf_call "KdL") ?_)
  | ((with_reducible show CR.wS _ _ _ (.Raise _ _ _) _ _ _); refine CR.sRaise (by assumption) (by with_reducible assumption) (by ktf_call "Kd") ?_)
  | refine CR.wS_expr ?_
  | refine CR.wS_pass ?_
  | refine CR.wS_retN ?_)
local macro_rules | `(tactic| ktf_call "SS") => `(tactic| first
  | with_reducible refine CR.put2S ?_
  | refine CR.wSs_cons ?_
  | refine CR.wSs_nil ?_)
local macro_rules | `(tactic| ktf_call "OB") => `(tactic| first
  | ((with_reducible show CR.BltS _ _ _ _ [.str _] _); with_reducible refine CR.bltSR (CR.lenS (by ktf_call "side")) ?_) | ((with_reducible show CR.BltS _ _ _ _ [.lst _] _); with_reducible refine CR.bltSR (CR.lenL (by assumption)) ?_) | ((with_reducible show CR.BltS _ _ _ _ [.tup _] _); with_reducible refine CR.bltSR (CR.lenT (by assumption)) ?_)
  | ((with_reducible show CR.BltS _ _ _ _ [.ref _] _); with_reducible refine CR.lenR (by with_reducible assumption) (by ktf_call "St") ?_)
  | with_reducible refine CR.bltSR (CR.min2N (by assumption)) ?_ | with_reducible refine CR.bltSR (CR.max2N (by assumption)) ?_
  | with_reducible refine CR.bltSR (CR.ordS) ?_ | with_reducible refine CR.bltSR (CR.absI) ?_ | with_reducible refine CR.bltSR (CR.max2 (by assumption)) ?_ | with_reducible refine CR.bltSR (CR.min2 (by assumption)) ?_
  | with_reducible refine CR.bltSR (CR.copyL (by assumption)) ?_
  | with_reducible refine CR.bltSR (CR.intI) ?_ | with_reducible refine CR.bltSR (CR.intB) ?_)
local macro_rules | `(tactic| ktf_call "OS") => `(tactic| first
  | ((with_reducible show CR.SubS _ _ _ (.str _) _ _); with_reducible refine CR.subSR (CR.subSn (by ktf_call "side") (by ktf_call "side")) ?_) | ((with_reducible show CR.SubS _ _ _ (.str _) _ _); with_reducible refine CR.subSR (CR.subSi (by ktf_call "side") (by ktf_call "side") (by ktf_call "side")) ?_) | ((with_reducible show CR.SubS _ _ _ (.lst _) _ _); with_reducible refine CR.subSR (CR.subLn (by assumption) (by ktf_call "side")) ?_) | ((with_reducible show CR.SubS _ _ _ (.tup _) _ _); with_reducible refine CR.subSR (CR.subTn (by assumption) (by ktf_call "side")) ?_))
local macro_rules | `(tactic| ktf_call "OA") => `(tactic| first
  | with_reducible refine CR.opI (CR.addI) ?_ | with_reducible refine CR.opI (CR.subI) ?_ | ((with_reducible show ∃ z, CR.BinR _ _ _ (.str _) _ z ∧ _); with_reducible refine CR.opI (CR.addS (by ktf_call "side")) ?_)
  | ((with_reducible show ∃ z, CR.BinR _ _ .Mult _ _ z ∧ _); refine CR.opI (CR.mulA (by ktf_call "side") (by ktf_call "side")) ?_) | ((with_reducible show ∃ z, CR.BinR _ _ .FloorDiv _ _ z ∧ _); refine CR.opI (CR.divA (by ktf_call "side") (by ktf_call "side")) ?_) | ((with_reducible show ∃ z, CR.BinR _ _ .Mod _ _ z ∧ _); refine CR.opI (CR.modI (by ktf_call "side")) ?_))
local macro_rules | `(tactic| ktf_call "OC") => `(tactic| first
  | with_reducible refine CR.opI (CR.ltI) ?_ | with_reducible refine CR.opI (CR.leI) ?_ | with_reducible refine CR.opI (CR.gtI) ?_ | with_reducible refine CR.opI (CR.geI) ?_ | with_reducible refine CR.opI (CR.eqI) ?_ | with_reducible refine CR.opI (CR.neI) ?_
  | with_reducible refine CR.opI (CR.eqS) ?_ | with_reducible refine CR.opI (CR.neS) ?_ | with_reducible refine CR.opI (CR.isN) ?_ | with_reducible refine CR.opI (CR.notN) ?_ | with_reducible refine CR.opI (CR.inC) ?_ | with_reducible refine CR.opI (CR.leS) ?_)
local macro_rules | `(tactic| ktf_call "OL") => `(tactic| first
  | ((with_reducible show ∃ z, CR.SlcR _ _ (.str _) (some _) (some _) z ∧ _); with_reducible refine CR.opI (CR.slcN (by ktf_call "side") (by ktf_call "side") (by ktf_call "side")) ?_)
  | ((with_reducible show ∃ z, CR.SlcR _ _ (.str _) none _ z ∧ _); with_reducible refine CR.opI (CR.slcTo (by ktf_call "side") (by ktf_call "side")) ?_) | ((with_reducible show ∃ z, CR.SlcR _ _ (.str _) _ none z ∧ _); with_reducible refine CR.opI (CR.slcFrom (by ktf_call "side") (by ktf_call "side")) ?_) | ((with_reducible show ∃ z, CR.SlcR _ _ (.str _) _ _ z ∧ _); with_reducible refine CR.opI (CR.slcS (by ktf_call "side")) ?_) | with_reducible refine CR.opI (CR.slcL (by assumption)) ?_)
local macro_rules | `(tactic| ktf_call "AA") => `(tactic| first | refine CR.wA_nil ?_ | refine CR.wA_cons ?_ | with_reducible refine CR.put2A ?_)
local macro_rules | `(tactic| ktf_call "M") => `(tactic| first
  | ((with_reducible show CR.Recv _ _ _ _ ∧ _); with_reducible refine And.intro (Hd.recvS (by ktf_call "St") (by with_unfolding_all rfl)) ?_)
  | ((with_reducible show ∃ s d s', _ ∧ Hd.ShW s _ _ s' ∧ _); with_reducible refine Hd.shwO (by ktf_call "St") (by with_reducible constructor) ?_)
  | with_reducible refine CR.fldO (by with_reducible assumption) (by with_unfolding_all rfl) ?_
  | ((with_reducible show ∃ C' fs' d', ((∃ a, CR.D.ref _ = CR.D.ref a ∧ _) ∨ _) ∧ _); with_reducible refine CR.fldR (by ktf_call "St") (by with_reducible assumption) (by with_unfolding_all rfl) ?_)
  | with_reducible refine ⟨_, CR.TruD.bl _, ?_⟩
  | ((with_reducible show @LE.le _ _ _ _ ∧ _); with_reducible refine CR.and_le (by ktf_call "side") ?_) | ((with_reducible show @LT.lt _ _ _ _ ∧ _); with_reducible refine CR.and_lt (by ktf_call "side") ?_)
  | ((with_reducible apply CR.pureI); focus (intro Q q; ktf_call "go"; exact q))
  | with_reducible refine ⟨_, _, _, _, rfl, by assumption, by assumption, ?_⟩
  | refine CR.wP_none ?_ | (refine CR.wP_some ?_) | refine CR.opI rfl ?_)
local macro_rules | `(tactic| ktf_call "one") => `(tactic| first
  | (refine CR.isE ?_; ktf_call "E")
  | (refine CR.isA ?_; ktf_call "AA")
  | (refine CR.isBlt ?_; ktf_call "OB")
  | (refine CR.isSub ?_; ktf_call "OS")
  | (refine CR.isBin ?_; ktf_call "OA")
  | (refine CR.isCmp ?_; first | ktf_call "O" | ktf_call "OC")
  | (refine CR.isSlc ?_; ktf_call "OL"))
local macro_rules | `(tactic| ktf_call "goE") => `(tactic| repeat (first | ktf_call "one" | ktf_call "C" | ktf_call "M"))
local macro_rules | `(tactic| ktf_call "go") => `(tactic| repeat (first | (refine CR.isSs ?_; ktf_call "SS") | (refine CR.isS ?_; first | with_reducible refine CR.put2s ?_ | ktf_call "S") | ktf_call "one" | (refine CR.isT ?_; first | with_reducible refine CR.put2T ?_ | ktf_call "T") | ktf_call "C" | ktf_call "M"))
local macro_rules | `(tactic| ktf_call ("bz", $h:ident)) => `(tactic| simp only [Bool.and_eq_true, Bool.or_eq_true, Bool.not_eq_true', Bool.not_eq_false', decide_eq_true_eq, decide_eq_false_iff_not, Bool.and_eq_false_iff, Bool.or_eq_false_iff, Int.ofNat_lt, Int.ofNat_le, Int.natCast_inj, CR.s_blank, CR.s_nl, CR.s_empty, CR.str_one] at $h:ident)

variable {Γ : Wd} {k : Nat} {f : Addr} {fd : FuncData}
inductive spLookWidth (cS : Addr) : FnS
  | mk {w : Int} {S : Sto} {Q : D → Sto → Prop} {E : Addr → Sto → Prop} (q : 2 ≤ w → w ≤ 200 → Q .non S) (e : ¬ (2 ≤ w ∧ w ≤ 200) → E cS S) : spLookWidth cS [.int w] S Q E
theorem ok_look_width {cS : Addr} (F : FnP Γ "look_width" s_look_width f fd) (gM : GlV Γ "MOST_WIDTH" (.int 200)) (xS : ExK Γ "BadSize" cS) : OkD Γ 1 f fd ["width"] (spLookWidth cS) := by
  refine okD F sc_look_width nm_look_width (by decide +kernel) (fun ds S Q E h => by cases h; rfl) (fun X B ds Q E G h => ?_)
  have Gg := G.g
  cases h with
  | @mk w _ _ _ q e =>
    show wSs Γ X B _ [.val (.int w)] B.S _
    ktf_call "go"
    refine ⟨fun hz => ?_, fun hz => ?_⟩
    · ktf_call ("bz", hz)
      ktf_call "go"
      exact e (by omega)
    · ktf_call ("bz", hz)
      ktf_call "go"
      exact q hz.1 hz.2
abbrev greatL : List Nat := [65,66,67,68,69,70,71,72,73,74,75,76,77,78,79,80,81,82,83,84,85,86,87,88,89,90]
theorem great_iff (c : Nat) : c ∈ greatL ↔ 65 ≤ c ∧ c ≤ 90 := by
  constructor
  · intro h
    simp only [greatL, List.mem_cons, List.not_mem_nil, or_false] at h
    omega
  · intro ⟨h1, h2⟩
    simp only [greatL, List.mem_cons, List.not_mem_nil, or_false]
    omega
theorem wide_eq (t : List Nat) : wideN t = t.length + (t.filter fun c => decide (c ∈ greatL)).length := by
  induction t with
  | nil => rfl
  | cons c t ih =>
    rw [wideN_cons, ih, List.length_cons, List.filter_cons]
    unfold wd
    by_cases h : c ∈ greatL
    · rw [if_pos ((great_iff c).mp h), if_pos (decide_eq_true h), List.length_cons]
      omega
    · rw [if_neg (fun z => h ((great_iff c).mpr z)), if_neg (by rw [decide_eq_false h]; decide)]
      omega
inductive spWide : FnS
  | mk {t : List Nat} {S : Sto} {Q : D → Sto → Prop} {E : Addr → Sto → Prop} (h : t.length ≤ 100000) (q : Q (.int (wideN t : Nat)) S) : spWide [.str t] S Q E
theorem ok_wide (F : FnP Γ "wide" s_wide f fd) (b_len : Γ.mg "len" = none) (gG : GlV Γ "GREAT" (.str greatL)) : OkD Γ 1 f fd ["text"] spWide := by
  refine okD F sc_wide nm_wide (by decide +kernel) (fun ds S Q E h => by cases h; rfl) (fun X B ds Q E G h => ?_)
  have Gg := G.g
  cases h with
  | @mk t _ _ _ h1 q =>
    show wSs Γ X B _ [.val (.str t), .no] B.S _
    ktf_call "go"
    refine wE_lc Gg [("sign", 1)] (by decide +kernel) (wI_str ?_)
    ktf_call "go"
    refine lcP (nmb := nb_wide_0) (h := fun c => .str [c]) (pr := fun c => decide (c ∈ greatL)) (by rfl) h1 (fun c => [.val (.str t), .val (.str [c])]) (fun c hc Xb Gb => gNm (i := 1) Gb rfl (by ktf_call "Kd") (by decide)) (fun c hc Xb Gb QB q => wTs_one ?g0) (fun c hc hz Xb Gb Q q => ?g1) ?g2
    case g0 =>
      ktf_call "go"
      exact q
    case g1 =>
      ktf_call "go"
      exact q
    case g2 =>
      ktf_call "go"
      rw [List.length_map, ← Int.natCast_add, ← wide_eq]
      exact q
local macro_rules | `(tactic| ktf_call "C") => `(tactic| refine spWide.mk (by ktf_call "side") ?_)
abbrev rowD (cR : Addr) (a b : Int) (z : Bool) : D := .obj cR [("start", .int a), ("end", .int b), ("is_soft", .bl z)]
inductive spRowI (cR : Addr) : FnS
  | mk {p : Addr} {a b : Int} {z : Bool} {S : Sto} {Q : D → Sto → Prop} {E : Addr → Sto → Prop} (h : S p = some (.ins cR [])) (q : Q .non (put S p (.ins cR [("start", .int a), ("end", .int b), ("is_soft", .bl z)]))) : spRowI cR [.ref p, .int a, .int b, .bl z] S Q E
theorem ok_row_init {cR : Addr} (F : FunD Γ.K "__init__" "Row.__init__" (defArgs s_Row_init) (defBody s_Row_init) (defScope s_Row_init) [] [] f fd) (f1 : Fld Γ cR "start") (f2 : Fld Γ cR "end") (f3 : Fld Γ cR "is_soft") : OkD Γ 1 f fd ["self", "start", "end", "is_soft"] (spRowI cR) := by
  refine okD F sc_Row_init nm_Row_init (by decide +kernel) (fun ds S Q E h => by cases h; rfl) (fun X B ds Q E G h => ?_)
  have Gg := G.g
  cases h with
  | @mk p a b z _ _ _ h q =>
    show wSs Γ X B _ [.val (.ref p), .val (.int a), .val (.int b), .val (.bl z)] B.S _
    ktf_call "go"
    refine sFldW Gg ?_
    ktf_call "go"
    refine ⟨_, _, _, rfl, h, f1, by ktf_call "side", ?_⟩
    ktf_call "go"
    refine sFldW Gg ?_
    ktf_call "go"
    refine ⟨_, _, _, rfl, put_same, f2, (show (1 : Nat) < 1000 by decide), ?_⟩
    ktf_call "go"
    refine sFldW Gg ?_
    ktf_call "go"
    refine ⟨_, _, _, rfl, put_same, f3, (show (2 : Nat) < 1000 by decide), ?_⟩
    ktf_call "go"
    exact q
inductive spTold (cR : Addr) : FnS
  | mk {a b : Int} {z : Bool} {S : Sto} {Q : D → Sto → Prop} {E : Addr → Sto → Prop} (q : Q (.tup [.int a, .int b, .bl z]) S) : spTold cR [rowD cR a b z] S Q E
theorem ok_row_told {cR : Addr} (F : FunD Γ.K "told" "Row.told" (defArgs s_Row_told) (defBody s_Row_told) (defScope s_Row_told) [] [] f fd) (f1 : Fld Γ cR "start") (f2 : Fld Γ cR "end") (f3 : Fld Γ cR "is_soft") : OkD Γ 1 f fd ["self"] (spTold cR) := by
  refine okD F sc_Row_told nm_Row_told (by decide +kernel) (fun ds S Q E h => by cases h; rfl) (fun X B ds Q E G h => ?_)
  have Gg := G.g
  cases h with
  | @mk a b z _ _ _ q =>
    show wSs Γ X B _ [.val (rowD cR a b z)] B.S _
    ktf_call "go"
    exact q
end Hd

end

section
namespace Hd
open PySem PySem.Spec PyProof.Rows L2 CR
local macro_rules | `(tactic| ktf_call "At") => `(tactic| with_reducible (repeat (first | exact CR.At.hd | apply CR.At.tl)))
local macro_rules | `(tactic| ktf_call "Up") => `(tactic| with_reducible (repeat (first | exact CR.UpF.hd | apply CR.UpF.tl)))
local macro_rules | `(tactic| ktf_call "Kd") => `(tactic| with_reducible (repeat (first | exact CR.Kd.hd | apply CR.Kd.tl)))
local macro_rules | `(tactic| ktf_call "KdV") => `(tactic| first | (refine Or.inl ?_; ktf_call "Kd"; done) | (refine Or.inr (Or.inl ?_); ktf_call "Kd"; done) | (refine Or.inr (Or.inr ?_); ktf_call "Kd"; done))
local macro_rules | `(tactic| ktf_call "KdL") => `(tactic| first | (refine Or.inl ?_; ktf_call "Kd"; done) | (refine Or.inr ?_; ktf_call "Kd"; done))
local macro_rules | `(tactic| ktf_call "side") => `(tactic| first | with_reducible assumption | omega | (simp only [List.length_nil, List.length_cons, List.length_append, List.length_map, List.length_take, List.length_drop]; omega) | decide)
local macro_rules | `(tactic| ktf_call "St") => `(tactic| first | with_reducible assumption | with_reducible exact CR.put_same)
local macro_rules | `(tactic| ktf_call "C") => `(tactic| fail)
local macro_rules | `(tactic| ktf_call "O") => `(tactic| fail)
local macro_rules | `(tactic| ktf_call "E") => `(tactic| first
  | ((with_reducible show CR.wE _ _ _ (.Name _ _) _ _ _); refine CR.eN (by assumption) (by ktf_call "At") (by ktf_call "KdV") ?_)
  | refine CR.wE_int ?_
  | with_reducible refine CR.wE_sp ?_
  | with_reducible refine CR.wE_nl ?_
  | with_reducible refine CR.wE_em ?_
  | refine CR.wE_str ?_
  | refine CR.wE_bool ?_
  | refine CR.wE_none ?_
  | ((with_reducible show CR.wE _ _ _ (.Attribute (.Name _ _) _ _) _ _ _); refine Hd.eSelf (by assumption) (by with_reducible assumption) (by ktf_call "At") (by ktf_call "KdV") (by ktf_call "St") (by with_reducible constructor) ?_)
  | refine CR.wE_bin ?_
  | ((with_reducible show CR.wE _ _ _ (.Call (.Name _ _) _ _ _) _ _ _); refine CR.eCall (by assumption) (by with_reducible assumption) (by first | decide | omega) (by ktf_call "Kd") ?_)
  | (((with_reducible show CR.wE _ _ _ (.Call (.Name _ _) _ _ _) _ _ _); refine CR.eIsX (by assumption) (by ktf_call "Kd") (by with_reducible assumption) ?_))
  | ((with_reducible show CR.wE _ _ _ (.Call (.Name _ _) _ _ _) _ _ _); refine CR.eBltS (by assumption) (by with_reducible constructor) (by ktf_call "Kd") (by with_reducible assumption) ?_)
  | ((with_reducible show CR.wE _ _ _ (.Call (.Name _ _) _ _ _) _ _ _); refine CR.eBtyS (by assumption) (by with_reducible constructor) (by ktf_call "Kd") (by with_reducible assumption) ?_)
  | ((with_reducible show CR.wE _ _ _ (.Name _ _) _ _ _); refine CR.eGlob (by assumption) (by with_reducible assumption) (by ktf_call "Kd") ?_)
  | refine CR.wE_cmp ?_
  | refine CR.eChain ?_
  | refine CR.wE_slice ?_
  | refine CR.wE_subS ?_
  | refine CR.wE_tup ?_
  | refine CR.wE_lst ?_
  | refine CR.wE_neg ?_
  | refine CR.wE_if ?_
  | ((with_reducible show CR.wE _ _ _ (.Call (.Attribute _ _ _) _ _ _) _ _ _); refine CR.wE_meth0 (by assumption) (by with_reducible assumption) (by first | decide | omega) ?_)
  | ((with_reducible show CR.wE _ _ _ (.Call (.Attribute _ _ _) _ _ _) _ _ _); refine CR.wE_meth (by assumption) (by with_reducible assumption) (by first | decide | omega) ?_)
  | ((with_reducible show CR.wE _ _ _ (.Attribute _ _ _) _ _ _); refine CR.wE_fld (by assumption) ?_)
  | with_reducible refine CR.put2E ?_)
local macro_rules | `(tactic| ktf_call "T") => `(tactic| first
  | refine CR.wT_cmp ?_
  | refine CR.tChain ?_
  | refine CR.wT_not ?_
  | refine CR.wT_val (by assumption) ?_)
local macro_rules | `(tactic| ktf_call "S") => `(tactic| first
  | refine CR.wS_ret ?_
  | refine CR.wS_if ?_
  | ((with_reducible show CR.wS _ _ _ (.Assign [.Attribute _ _ _] _ _) _ _ _); refine Hd.sSelf (by assumption) (by with_reducible assumption) (by ktf_call "At") (by ktf_call "KdV") ?_)
  | ((with_reducible show CR.wS _ _ _ (.Assign [.Name _ _] (.List _ _) _) _ _ _); refine CR.sOwn (es := []) (by assumption) (by ktf_call "Up") (by ktf_call "KdL") ?_)
  | ((with_reducible show CR.wS _ _ _ (.Expr (.Call (.Attribute _ _ _) _ _ _) _) _ _ _); refine CR.sApp (by assumption) (by ktf_call "At") (by ktf_call "Up") (by ktf_call "KdV") ?_)
  | ((with_reducible show CR.wS _ _ _ (.Expr (.Call (.Attribute _ _ _) _ _ _) _) _ _ _); refine CR.sExt (by assumption) (by ktf_call "At") (by ktf_call "Up") (by ktf_call "KdV") ?_)
  | ((with_reducible show CR.wS _ _ _ (.Assign [.Name _ _] _ _) _ _ _); refine CR.sSet (by assumption) (by ktf_call "Up") (by ktf_call "KdL") ?_)
  | ((with_reducible show CR.wS _ _ _ (.Raise _ _ _) _ _ _); refine CR.sRaise (by assumption) (by with_reducible assumption) (by ktf_call "Kd") ?_)
  | refine CR.wS_expr ?_
  | refine CR.wS_pass ?_
  | refine CR.wS_retN ?_)
local macro_rules | `(tactic| ktf_call "SS") => `(tactic| first
  | with_reducible refine CR.put2S ?_
  | refine CR.wSs_cons ?_
  | refine CR.wSs_nil ?_)
local macro_rules | `(tactic| ktf_call "OB") => `(tactic| first
  | ((with_reducible show CR.BltS _ _ _ _ [.str _] _); with_reducible refine CR.bltSR (CR.lenS (by ktf_call "side")) ?_) | ((with_reducible show CR.BltS _ _ _ _ [.lst _] _); with_reducible refine CR.bltSR (CR.lenL (by assumption)) ?_) | ((with_reducible show CR.BltS _ _ _ _ [.tup _] _); with_reducible refine CR.bltSR (CR.lenT (by assumption)) ?_)
  | ((with_reducible show CR.BltS _ _ _ _ [.ref _] _); with_reducible refine CR.lenR (by with_reducible assumption) (by ktf_call "St") ?_)
  | with_reducible refine CR.bltSR (CR.min2N (by assumption)) ?_ | with_reducible refine CR.bltSR (CR.max2N (by assumption)) ?_
  | with_reducible refine CR.bltSR (CR.ordS) ?_ | with_reducible refine CR.bltSR (CR.absI) ?_ | with_reducible refine CR.bltSR (CR.max2 (by assumption)) ?_ | with_reducible refine CR.bltSR (CR.min2 (by assumption)) ?_
  | with_reducible refine CR.bltSR (CR.copyL (by assumption)) ?_
  | with_reducible refine CR.bltSR (CR.intI) ?_ | with_reducible refine CR.bltSR (CR.intB) ?_)
local macro_rules | `(tactic| ktf_call "OS") => `(tactic| first
  | ((with_reducible show CR.SubS _ _ _ (.str _) _ _); with_reducible refine CR.subSR (CR.subSn (by ktf_call "side") (by ktf_call "side")) ?_) | ((with_reducible show CR.SubS _ _ _ (.str _) _ _); with_reducible refine CR.subSR (CR.subSi (by ktf_call "side") (by ktf_call "side") (by ktf_call "side")) ?_) | ((with_reducible show CR.SubS _ _ _ (.lst _) _ _); with_reducible refine CR.subSR (CR.subLn (by assumption) (by ktf_call "side")) ?_) | ((with_reducible show CR.SubS _ _ _ (.tup _) _ _); with_reducible refine CR.subSR (CR.subTn (by assumption) (by ktf_call "side")) ?_))
local macro_rules | `(tactic| ktf_call "OA") => `(tactic| first
  | with_reducible refine CR.opI (CR.addI) ?_ | with_reducible refine CR.opI (CR.subI) ?_ | ((with_reducible show ∃ z, CR.BinR _ _ _ (.str _) _ z ∧ _); with_reducible refine CR.opI (CR.addS (by ktf_call "side")) ?_)
  | ((with_reducible show ∃ z, CR.BinR _ _ .Mult _ _ z ∧ _); refine CR.opI (CR.mulA (by ktf_call "side") (by ktf_call "side")) ?_) | ((with_reducible show ∃ z, CR.BinR _ _ .FloorDiv _ _ z ∧ _); refine CR.opI (CR.divA (by ktf_call "side") (by ktf_call "side")) ?_) | ((with_reducible show ∃ z, CR.BinR _ _ .Mod _ _ z ∧ _); refine CR.opI (CR.modI (by ktf_call "side")) ?_))
local macro_rules | `(tactic| ktf_call "OC") => `(tactic| first
  | with_reducible refine CR.opI (CR.ltI) ?_ | with_reducible refine CR.opI (CR.leI) ?_ | with_reducible refine CR.opI (CR.gtI) ?_ | with_reducible refine CR.opI (CR.geI) ?_ | with_reducible refine CR.opI (CR.eqI) ?_ | with_reducible refine CR.opI (CR.neI) ?_
  | with_reducible refine CR.opI (CR.eqS) ?_ | with_reducible refine CR.opI (CR.neS) ?_ | with_reducible refine CR.opI (CR.isN) ?_ | with_reducible refine CR.opI (CR.notN) ?_ | with_reducible refine CR.opI (CR.inC) ?_ | with_reducible refine CR.opI (CR.leS) ?_)
local macro_rules | `(tactic| ktf_call "OL") => `(tactic| first
  | ((with_reducible show ∃ z, CR.SlcR _ _ (.str _) (some _) (some _) z ∧ _); with_reducible refine CR.opI (CR.slcN (by ktf_call "side") (by ktf_call "side") (by ktf_call "side")) ?_)
  | ((with_reducible show ∃ z, CR.SlcR _ _ (.str _) none _ z ∧ _); with_reducible refine CR.opI (CR.slcTo (by ktf_call "side") (by ktf_call "side")) ?_) | ((with_reducible show ∃ z, CR.SlcR _ _ (.str _) _ none z ∧ _); with_reducible refine CR.opI (CR.slcFrom (by ktf_call "side") (by ktf_call "side")) ?_) | ((with_reducible show ∃ z, CR.SlcR _ _ (.str _) _ _ z ∧ _); with_reducible refine CR.opI (CR.slcS (by ktf_call "side")) ?_) | with_reducible refine CR.opI (CR.slcL (by assumption)) ?_)
local macro_rules | `(tactic| ktf_call "AA") => `(tactic| first | refine CR.wA_nil ?_ | refine CR.wA_cons ?_ | with_reducible refine CR.put2A ?_)
local macro_rules | `(tactic| ktf_call "M") => `(tactic| first
  | ((with_reducible show CR.Recv _ _ _ _ ∧ _); with_reducible refine And.intro (Hd.recvS (by ktf_call "St") (by with_unfolding_all rfl)) ?_)
  | ((with_reducible show ∃ s d s', _ ∧ Hd.ShW s _ _ s' ∧ _); with_reducible refine Hd.shwO (by ktf_call "St") (by with_reducible constructor) ?_)
  | with_reducible refine CR.fldO (by with_reducible assumption) (by with_unfolding_all rfl) ?_
  | ((with_reducible show ∃ C' fs' d', ((∃ a, CR.D.ref _ = CR.D.ref a ∧ _) ∨ _) ∧ _); with_reducible refine CR.fldR (by ktf_call "St") (by with_reducible assumption) (by with_unfolding_all rfl) ?_)
  | with_reducible refine ⟨_, CR.TruD.bl _, ?_⟩
  | ((with_reducible show @LE.le _ _ _ _ ∧ _); with_reducible refine CR.and_le (by ktf_call "side") ?_) | ((with_reducible show @LT.lt _ _ _ _ ∧ _); with_reducible refine CR.and_lt (by ktf_call "side") ?_)
  | ((with_reducible apply CR.pureI); focus (intro Q q; ktf_call "go"; exact q))
  | with_reducible refine ⟨_, _, _, _, rfl, by assumption, by assumption, ?_⟩
  | refine CR.wP_none ?_ | (refine CR.wP_some ?_) | refine CR.opI rfl ?_)
local macro_rules | `(tactic| ktf_call "one") => `(tactic| first
  | (refine CR.isE ?_; ktf_call "E")
  | (refine CR.isA ?_; ktf_call "AA")
  | (refine CR.isBlt ?_; ktf_call "OB")
  | (refine CR.isSub ?_; ktf_call "OS")
  | (refine CR.isBin ?_; ktf_call "OA")
  | (refine CR.isCmp ?_; first | ktf_call "O" | ktf_call "OC")
  | (refine CR.isSlc ?_; ktf_call "OL"))
local macro_rules | `(tactic| ktf_call "goE") => `(tactic| repeat (first | ktf_call "one" | ktf_call "C" | ktf_call "M"))
local macro_rules | `(tactic| ktf_call "go") => `(tactic| repeat (first | (refine CR.isSs ?_; ktf_call "SS") | (refine CR.isS ?_; first | with_reducible refine CR.put2s ?_ | ktf_call "S") | ktf_call "one" | (refine CR.isT ?_; first | with_reducible refine CR.put2T ?_ | ktf_call "T") | ktf_call "C" | ktf_call "M"))
local macro_rules | `(tactic| ktf_call ("bz", $h:ident)) => `(tactic| simp only [Bool.and_eq_true, Bool.or_eq_true, Bool.not_eq_true', Bool.not_eq_false', decide_eq_true_eq, decide_eq_false_iff_not, Bool.and_eq_false_iff, Bool.or_eq_false_iff, Int.ofNat_lt, Int.ofNat_le, Int.natCast_inj, CR.s_blank, CR.s_nl, CR.s_empty, CR.str_one] at $h:ident)

variable {Γ : Wd} {k : Nat} {f : Addr} {fd : FuncData}
local macro_rules | `(tactic| ktf_call "C") => `(tactic| refine spWide.mk (by ktf_call "side") ?_)
inductive spFit : FnS
  | mk {t : List Nat} {a l w : Nat} {S : Sto} {Q : D → Sto → Prop} {E : Addr → Sto → Prop} (h : t.length ≤ 50000) (h1 : a ≤ l) (h2 : l ≤ t.length) (q : Q (.int ((a + fitG w (seg t a l) : Nat) : Int)) S) : spFit [.str t, .int a, .int l, .int w] S Q E
theorem ok_fitting (F : FnP Γ "fitting" s_fitting f fd) (h_wide : Fn Γ "wide" 1 spWide) : OkD Γ 2 f fd ["text", "start", "last", "width"] spFit := by
  refine okD F sc_fitting nm_fitting (by decide +kernel) (fun ds S Q E h => by cases h; rfl) (fun X B ds Q E G h => ?_)
  have Gg := G.g
  cases h with
  | @mk t a l w _ _ _ h1 h2 h3 q =>
    show wSs Γ X B _ [.val (.str t), .val (.int a), .val (.int l), .val (.int w), .no, .no] B.S _
    ktf_call "go"
    refine wS_while Gg (fun n ρ S => ∃ e r : Nat, ρ = [.val (.str t), .val (.int a), .val (.int l), .val (.int w), .val (.int e), .val (.int r)] ∧ S = B.S ∧ n = l - e ∧ e ≤ l ∧ e + fitG r (seg t e l) = a + fitG w (seg t a l)) (l - a) ⟨a, w, rfl, rfl, rfl, h2, rfl⟩ ?_
    rintro n ρ S ⟨e, r, rfl, rfl, rfl, he, hf⟩
    refine' wT_p (pT_W (pW_and (fun _ hq => ?g1) fun hlt => pW_and1 fun _ hq => ?g2)) ⟨fun hz => ?g3, fun hz => ?g4⟩
    case g1 =>
      ktf_call "go"
      exact hq
    case g2 =>
      ktf_call ("bz", hlt)
      ktf_call "go"
      exact hq
    case g3 =>
      ktf_call ("bz", hz)
      obtain ⟨hlt, hle⟩ := hz
      have hs := fit_step (r := r) hlt h3
      rw [wideN_one] at hle
      rw [if_pos hle] at hs
      ktf_call "go"
      rw [wideN_one]
      refine ⟨l - (e + 1), by omega, e + 1, r - wd (t.getD e 0), ?_, rfl, rfl, by omega, by omega⟩
      rw [show ((r - wd (t.getD e 0) : Nat) : Int) = (r : Int) - (wd (t.getD e 0) : Nat) by omega]
      rfl
    case g4 =>
      ktf_call ("bz", hz)
      have hs : fitG r (seg t e l) = 0 := by
        by_cases hlt : e < l
        · rw [wideN_one] at hz
          rw [fit_step (r := r) hlt h3, if_neg (by omega)]
        · exact fit_end (by omega)
      ktf_call "go"
      rw [show (e : Int) = ((a + fitG w (seg t a l) : Nat) : Int) by omega]
      exact q
local macro_rules | `(tactic| ktf_call "C") => `(tactic| refine spFit.mk (by ktf_call "side") (by ktf_call "side") (by ktf_call "side") ?_)
inductive spRowEnd : FnS
  | mk {t : List Nat} {a l w : Nat} {S : Sto} {Q : D → Sto → Prop} {E : Addr → Sto → Prop} (h : t.length ≤ 50000) (h1 : a ≤ l) (h2 : l ≤ t.length) (q : Q (.int ((a + rowLen w (seg t a l) : Nat) : Int)) S) : spRowEnd [.str t, .int a, .int l, .int w] S Q E
theorem ok_row_end (F : FnP Γ "row_end" s_row_end f fd) (h_fitting : Fn Γ "fitting" 2 spFit) : OkD Γ 3 f fd ["text", "start", "last", "width"] spRowEnd := by
  refine okD F sc_row_end nm_row_end (by decide +kernel) (fun ds S Q E h => by cases h; rfl) (fun X B ds Q E G h => ?_)
  have Gg := G.g
  cases h with
  | @mk t a l w _ _ _ h1 h2 h3 q =>
    show wSs Γ X B _ [.val (.str t), .val (.int a), .val (.int l), .val (.int w), .no, .no] B.S _
    ktf_call "go"
    have hfl := fitG_le w (seg t a l)
    rw [seg_len h3] at hfl
    refine wS_while Gg (fun n ρ S => ∃ e : Nat, ρ = [.val (.str t), .val (.int a), .val (.int l), .val (.int w), .val (.int e), .no] ∧ S = B.S ∧ n = l - e ∧ a ≤ e ∧ e ≤ l ∧ e + blanks (seg t e l) = a + rowE w (seg t a l)) _ ⟨_, rfl, rfl, rfl, by omega, by omega, by rw [rowE_eq]; omega⟩ ?_
    rintro n ρ S ⟨e, rfl, rfl, rfl, ha, he, hf⟩
    refine' wT_p (pT_W (pW_and (fun _ hq => ?g1) fun hlt => pW_and1 fun _ hq => ?g2)) ⟨fun hz => ?g3, fun hz => ?g4⟩
    case g1 =>
      ktf_call "go"
      exact hq
    case g2 =>
      ktf_call ("bz", hlt)
      ktf_call "go"
      exact hq
    case g3 =>
      ktf_call ("bz", hz)
      obtain ⟨hlt, hle⟩ := hz
      have hs := blank_step hlt h3
      rw [if_pos hle] at hs
      ktf_call "go"
      exact ⟨l - (e + 1), by omega, e + 1, rfl, rfl, rfl, by omega, by omega, by omega⟩
    case g4 =>
      ktf_call ("bz", hz)
      have hs : blanks (seg t e l) = 0 := by
        by_cases hlt : e < l
        · rw [blank_step hlt h3, if_neg (fun z => hz.elim (fun h => h hlt) (fun h => h z))]
        · exact blank_end (by omega)
      have he2 : e = a + rowE w (seg t a l) := by omega
      ktf_call "go"
      refine ⟨fun hz => ?_, fun hz => ?_⟩
      · ktf_call ("bz", hz)
        ktf_call "go"
        have e3 : (l : Int) = ((a + rowLen w (seg t a l) : Nat) : Int) := by
          unfold rowLen
          rw [if_pos (by rw [seg_len h3]; omega), seg_len h3]
          omega
        rw [e3]
        exact q
      · ktf_call ("bz", hz)
        have hrow : rowLen w (seg t a l) = if 0 < cutB (seg t a l) (e - a) then cutB (seg t a l) (e - a) else e - a := by
          unfold rowLen
          rw [if_neg (by rw [seg_len h3]; omega), show rowE w (seg t a l) = e - a by omega]
        ktf_call "go"
        refine wS_while Gg (fun n ρ S => ∃ c : Nat, ρ = [.val (.str t), .val (.int a), .val (.int l), .val (.int w), .val (.int e), .val (.int c)] ∧ S = B.S ∧ n = c + 1 ∧ a ≤ c ∧ c ≤ e ∧ cutB (seg t a l) (c - a) = cutB (seg t a l) (e - a)) _ ⟨e, rfl, rfl, rfl, ha, by omega, rfl⟩ ?_
        rintro n ρ S ⟨c, rfl, rfl, rfl, hc1, hc2, hc3⟩
        refine' wT_p (pT_W (pW_and (fun _ hq => ?h1) fun hlt => pW_and1 fun _ hq => ?h2)) ⟨fun hz => ?h3, fun hz => ?h4⟩
        case h1 =>
          ktf_call "go"
          exact hq
        case h2 =>
          ktf_call ("bz", hlt)
          ktf_call "go"
          exact hq
        case h3 =>
          ktf_call ("bz", hz)
          obtain ⟨hlt, hle⟩ := hz
          have hs := cut_step (t := t) (a := a) (l := l) (n := c - a - 1) h3 (by omega)
          rw [show a + (c - a - 1) = c - 1 by omega, show c - a - 1 + 1 = c - a by omega, if_neg (fun z => hle (by rw [show ((c : Int) - 1).toNat = c - 1 by omega]; exact z))] at hs
          ktf_call "go"
          refine ⟨c - 1 + 1, by omega, c - 1, ?_, rfl, rfl, by omega, by omega, ?_⟩
          · rw [show ((c - 1 : Nat) : Int) = (c : Int) - 1 by omega]
          · rw [← hc3, hs, show c - 1 - a = c - a - 1 by omega]
        case h4 =>
          ktf_call ("bz", hz)
          have hcut : cutB (seg t a l) (e - a) = c - a := by
            rw [← hc3]
            by_cases hlt : a < c
            · have hs := cut_step (t := t) (a := a) (l := l) (n := c - a - 1) h3 (by omega)
              rw [show a + (c - a - 1) = c - 1 by omega, show c - a - 1 + 1 = c - a by omega, if_pos] at hs
              · exact hs
              · rcases hz with h | h
                · exact absurd hlt h
                · rw [show ((c : Int) - 1).toNat = c - 1 by omega] at h
                  first | exact h | exact Classical.not_not.mp h
            · rw [show c - a = 0 by omega]
              rfl
          rw [hcut] at hrow
          ktf_call "go"
          refine ⟨fun hz => ?_, fun hz => ?_⟩
          · ktf_call ("bz", hz)
            ktf_call "go"
            rw [if_pos (by omega)] at hrow
            rw [show (c : Int) = ((a + rowLen w (seg t a l) : Nat) : Int) by omega]
            exact q
          · ktf_call ("bz", hz)
            ktf_call "go"
            rw [if_neg (by omega)] at hrow
            rw [show (e : Int) = ((a + rowLen w (seg t a l) : Nat) : Int) by omega]
            exact q
end Hd

end

section
namespace Hd
open PySem PySem.Spec PyProof.Rows L2 CR
local macro_rules | `(tactic| ktf_call "At") => `(tactic| with_reducible (repeat (first | exact CR.At.hd | apply CR.At.tl)))
local macro_rules | `(tactic| ktf_call "Up") => `(tactic| with_reducible (repeat (first | exact CR.UpF.hd | apply CR.UpF.tl)))
local macro_rules | `(tactic| ktf_call "Kd") => `(tactic| with_reducible (repeat (first | exact CR.Kd.hd | apply CR.Kd.tl)))
local macro_rules | `(tactic| ktf_call "KdV") => `(tactic| first | (refine Or.inl ?_; ktf_call "Kd"; done) | (refine Or.inr (Or.inl ?_); ktf_call "Kd"; done) | (refine Or.inr (Or.inr ?_); ktf_call "Kd"; done))
local macro_rules | `(tactic| ktf_call "KdL") => `(tactic| first | (refine Or.inl ?_; ktf_call "Kd"; done) | (refine Or.inr ?_; ktf_call "Kd"; done))
local macro_rules | `(tactic| ktf_call "side") => `(tactic| first | with_reducible assumption | omega | (simp only [List.length_nil, List.length_cons, List.length_append, List.length_map, List.length_take, List.length_drop]; omega) | decide)
local macro_rules | `(tactic| ktf_call "St") => `(tactic| first | with_reducible assumption | with_reducible exact CR.put_same)
local macro_rules | `(tactic| ktf_call "C") => `(tactic| fail)
local macro_rules | `(tactic| ktf_call "O") => `(tactic| fail)
local macro_rules | `(tactic| ktf_call "E") => `(tactic| first
  | ((with_reducible show CR.wE _ _ _ (.Name _ _) _ _ _); refine CR.eN (by assumption) (by ktf_call "At") (by ktf_call "KdV") ?_)
  | refine CR.wE_int ?_
  | with_reducible refine CR.wE_sp ?_
  | with_reducible refine CR.wE_nl ?_
  | with_reducible refine CR.wE_em ?_
  | refine CR.wE_str ?_
  | refine CR.wE_bool ?_
  | refine CR.wE_none ?_
  | ((with_reducible show CR.wE _ _ _ (.Attribute (.Name _ _) _ _) _ _ _); refine Hd.eSelf (by assumption) (by with_reducible assumption) (by ktf_call "At") (by ktf_call "KdV") (by ktf_call "St") (by with_reducible constructor) ?_)
  | refine CR.wE_bin ?_
  | ((with_reducible show CR.wE _ _ _ (.Call (.Name _ _) _ _ _) _ _ _); refine CR.eCall (by assumption) (by with_reducible assumption) (by first | decide | omega) (by ktf_call "Kd") ?_)
  | (((with_reducible show CR.wE _ _ _ (.Call (.Name _ _) _ _ _) _ _ _); refine CR.eIsX (by assumption) (by ktf_call "Kd") (by with_reducible assumption) ?_))
  | ((with_reducible show CR.wE _ _ _ (.Call (.Name _ _) _ _ _) _ _ _); refine CR.eBltS (by assumption) (by with_reducible constructor) (by ktf_call "Kd") (by with_reducible assumption) ?_)
  | ((with_reducible show CR.wE _ _ _ (.Call (.Name _ _) _ _ _) _ _ _); refine CR.eBtyS (by assumption) (by with_reducible constructor) (by ktf_call "Kd") (by with_reducible assumption) ?_)
  | ((with_reducible show CR.wE _ _ _ (.Name _ _) _ _ _); refine CR.eGlob (by assumption) (by with_reducible assumption) (by ktf_call "Kd") ?_)
  | refine CR.wE_cmp ?_
  | refine CR.eChain ?_
  | refine CR.wE_slice ?_
  | refine CR.wE_subS ?_
  | refine CR.wE_tup ?_
  | refine CR.wE_lst ?_
  | refine CR.wE_neg ?_
  | refine CR.wE_if ?_
  | ((with_reducible show CR.wE _ _ _ (.Call (.Attribute _ _ _) _ _ _) _ _ _); refine CR.wE_meth0 (by assumption) (by with_reducible assumption) (by first | decide | omega) ?_)
  | ((with_reducible show CR.wE _ _ _ (.Call (.Attribute _ _ _) _ _ _) _ _ _); refine CR.wE_meth (by assumption) (by with_reducible assumption) (by first | decide | omega) ?_)
  | ((with_reducible show CR.wE _ _ _ (.Attribute _ _ _) _ _ _); refine CR.wE_fld (by assumption) ?_)
  | with_reducible refine CR.put2E ?_)
local macro_rules | `(tactic| ktf_call "T") => `(tactic| first
  | refine CR.wT_cmp ?_
  | refine CR.tChain ?_
  | refine CR.wT_not ?_
  | refine CR.wT_val (by assumption) ?_)
local macro_rules | `(tactic| ktf_call "S") => `(tactic| first
  | refine CR.wS_ret ?_
  | refine CR.wS_if ?_
  | ((with_reducible show CR.wS _ _ _ (.Assign [.Attribute _ _ _] _ _) _ _ _); refine Hd.sSelf (by assumption) (by with_reducible assumption) (by ktf_call "At") (by ktf_call "KdV") ?_)
  | ((with_reducible show CR.wS _ _ _ (.Assign [.Name _ _] (.List _ _) _) _ _ _); refine CR.sOwn (es := []) (by assumption) (by ktf_call "Up") (by ktf_call "KdL") ?_)
  | ((with_reducible show CR.wS _ _ _ (.Expr (.Call (.Attribute _ _ _) _ _ _) _) _ _ _); refine CR.sApp (by assumption) (by ktf_call "At") (by ktf_call "Up") (by ktf_call "KdV") ?_)
  | ((with_reducible show CR.wS _ _ _ (.Expr (.Call (.Attribute _ _ _) _ _ _) _) _ _ _); refine CR.sExt (by assumption) (by ktf_call "At") (by ktf_call "Up") (by ktf_call "KdV") ?_)
  | ((with_reducible show CR.wS _ _ _ (.Assign [.Name _ _] _ _) _ _ _); refine CR.sSet (by assumption) (by ktf_call "Up") (by ktf_call "KdL") ?_)
  | ((with_reducible show CR.wS _ _ _ (.Raise _ _ _) _ _ _); refine CR.sRaise (by assumption) (by with_reducible assumption) (by ktf_call "Kd") ?_)
  | refine CR.wS_expr ?_
  | refine CR.wS_pass ?_
  | refine CR.wS_retN ?_)
local macro_rules | `(tactic| ktf_call "SS") => `(tactic| first
  | with_reducible refine CR.put2S ?_
  | refine CR.wSs_cons ?_
  | refine CR.wSs_nil ?_)
local macro_rules | `(tactic| ktf_call "OB") => `(tactic| first
  | ((with_reducible show CR.BltS _ _ _ _ [.str _] _); with_reducible refine CR.bltSR (CR.lenS (by ktf_call "side")) ?_) | ((with_reducible show CR.BltS _ _ _ _ [.lst _] _); with_reducible refine CR.bltSR (CR.lenL (by assumption)) ?_) | ((with_reducible show CR.BltS _ _ _ _ [.tup _] _); with_reducible refine CR.bltSR (CR.lenT (by assumption)) ?_)
  | ((with_reducible show CR.BltS _ _ _ _ [.ref _] _); with_reducible refine CR.lenR (by with_reducible assumption) (by ktf_call "St") ?_)
  | with_reducible refine CR.bltSR (CR.min2N (by assumption)) ?_ | with_reducible refine CR.bltSR (CR.max2N (by assumption)) ?_
  | with_reducible refine CR.bltSR (CR.ordS) ?_ | with_reducible refine CR.bltSR (CR.absI) ?_ | with_reducible refine CR.bltSR (CR.max2 (by assumption)) ?_ | with_reducible refine CR.bltSR (CR.min2 (by assumption)) ?_
  | with_reducible refine CR.bltSR (CR.copyL (by assumption)) ?_
  | with_reducible refine CR.bltSR (CR.intI) ?_ | with_reducible refine CR.bltSR (CR.intB) ?_)
local macro_rules | `(tactic| ktf_call "OS") => `(tactic| first
  | ((with_reducible show CR.SubS _ _ _ (.str _) _ _); with_reducible refine CR.subSR (CR.subSn (by ktf_call "side") (by ktf_call "side")) ?_) | ((with_reducible show CR.SubS _ _ _ (.str _) _ _); with_reducible refine CR.subSR (CR.subSi (by ktf_call "side") (by ktf_call "side") (by ktf_call "side")) ?_) | ((with_reducible show CR.SubS _ _ _ (.lst _) _ _); with_reducible refine CR.subSR (CR.subLn (by assumption) (by ktf_call "side")) ?_) | ((with_reducible show CR.SubS _ _ _ (.tup _) _ _); with_reducible refine CR.subSR (CR.subTn (by assumption) (by ktf_call "side")) ?_))
local macro_rules | `(tactic| ktf_call "OA") => `(tactic| first
  | with_reducible refine CR.opI (CR.addI) ?_ | with_reducible refine CR.opI (CR.subI) ?_ | ((with_reducible show ∃ z, CR.BinR _ _ _ (.str _) _ z ∧ _); with_reducible refine CR.opI (CR.addS (by ktf_call "side")) ?_)
  | ((with_reducible show ∃ z, CR.BinR _ _ .Mult _ _ z ∧ _); refine CR.opI (CR.mulA (by ktf_call "side") (by ktf_call "side")) ?_) | ((with_reducible show ∃ z, CR.BinR _ _ .FloorDiv _ _ z ∧ _); refine CR.opI (CR.divA (by ktf_call "side") (by ktf_call "side")) ?_) | ((with_reducible show ∃ z, CR.BinR _ _ .Mod _ _ z ∧ _); refine CR.opI (CR.modI (by ktf_call "side")) ?_))
local macro_rules | `(tactic| ktf_call "OC") => `(tactic| first
  | with_reducible refine CR.opI (CR.ltI) ?_ | with_reducible refine CR.opI (CR.leI) ?_ | with_reducible refine CR.opI (CR.gtI) ?_ | with_reducible refine CR.opI (CR.geI) ?_ | with_reducible refine CR.opI (CR.eqI) ?_ | with_reducible refine CR.opI (CR.neI) ?_
  | with_reducible refine CR.opI (CR.eqS) ?_ | with_reducible refine CR.opI (CR.neS) ?_ | with_reducible refine CR.opI (CR.isN) ?_ | with_reducible refine CR.opI (CR.notN) ?_ | with_reducible refine CR.opI (CR.inC) ?_ | with_reducible refine CR.opI (CR.leS) ?_)
local macro_rules | `(tactic| ktf_call "OL") => `(tactic| first
  | ((with_reducible show ∃ z, CR.SlcR _ _ (.str _) (some _) (some _) z ∧ _); with_reducible refine CR.opI (CR.slcN (by ktf_call "side") (by ktf_call "side") (by ktf_call "side")) ?_)
  | ((with_reducible show ∃ z, CR.SlcR _ _ (.str _) none _ z ∧ _); with_reducible refine CR.opI (CR.slcTo (by ktf_call "side") (by ktf_call "side")) ?_) | ((with_reducible show ∃ z, CR.SlcR _ _ (.str _) _ none z ∧ _); with_reducible refine CR.opI (CR.slcFrom (by ktf_call "side") (by ktf_call "side")) ?_) | ((with_reducible show ∃ z, CR.SlcR _ _ (.str _) _ _ z ∧ _); with_reducible refine CR.opI (CR.slcS (by ktf_call "side")) ?_) | with_reducible refine CR.opI (CR.slcL (by assumption)) ?_)
local macro_rules | `(tactic| ktf_call "AA") => `(tactic| first | refine CR.wA_nil ?_ | refine CR.wA_cons ?_ | with_reducible refine CR.put2A ?_)
local macro_rules | `(tactic| ktf_call "M") => `(tactic| first
  | ((with_reducible show CR.Recv _ _ _ _ ∧ _); with_reducible refine And.intro (Hd.recvS (by ktf_call "St") (by with_unfolding_all rfl)) ?_)
  | ((with_reducible show ∃ s d s', _ ∧ Hd.ShW s _ _ s' ∧ _); with_reducible refine Hd.shwO (by ktf_call "St") (by with_reducible constructor) ?_)
  | with_reducible refine CR.fldO (by with_reducible assumption) (by with_unfolding_all rfl) ?_
  | ((with_reducible show ∃ C' fs' d', ((∃ a, CR.D.ref _ = CR.D.ref a ∧ _) ∨ _) ∧ _); with_reducible refine CR.fldR (by ktf_call "St") (by with_reducible assumption) (by with_unfolding_all rfl) ?_)
  | with_reducible refine ⟨_, CR.TruD.bl _, ?_⟩
  | ((with_reducible show @LE.le _ _ _ _ ∧ _); with_reducible refine CR.and_le (by ktf_call "side") ?_) | ((with_reducible show @LT.lt _ _ _ _ ∧ _); with_reducible refine CR.and_lt (by ktf_call "side") ?_)
  | ((with_reducible apply CR.pureI); focus (intro Q q; ktf_call "go"; exact q))
  | with_reducible refine ⟨_, _, _, _, rfl, by assumption, by assumption, ?_⟩
  | refine CR.wP_none ?_ | (refine CR.wP_some ?_) | refine CR.opI rfl ?_)
local macro_rules | `(tactic| ktf_call "one") => `(tactic| first
  | (refine CR.isE ?_; ktf_call "E")
  | (refine CR.isA ?_; ktf_call "AA")
  | (refine CR.isBlt ?_; ktf_call "OB")
  | (refine CR.isSub ?_; ktf_call "OS")
  | (refine CR.isBin ?_; ktf_call "OA")
  | (refine CR.isCmp ?_; first | ktf_call "O" | ktf_call "OC")
  | (refine CR.isSlc ?_; ktf_call "OL"))
local macro_rules | `(tactic| ktf_call "goE") => `(tactic| repeat (first | ktf_call "one" | ktf_call "C" | ktf_call "M"))
local macro_rules | `(tactic| ktf_call "go") => `(tactic| repeat (first | (refine CR.isSs ?_; ktf_call "SS") | (refine CR.isS ?_; first | with_reducible refine CR.put2s ?_ | ktf_call "S") | ktf_call "one" | (refine CR.isT ?_; first | with_reducible refine CR.put2T ?_ | ktf_call "T") | ktf_call "C" | ktf_call "M"))
local macro_rules | `(tactic| ktf_call ("bz", $h:ident)) => `(tactic| simp only [Bool.and_eq_true, Bool.or_eq_true, Bool.not_eq_true', Bool.not_eq_false', decide_eq_true_eq, decide_eq_false_iff_not, Bool.and_eq_false_iff, Bool.or_eq_false_iff, Int.ofNat_lt, Int.ofNat_le, Int.natCast_inj, CR.s_blank, CR.s_nl, CR.s_empty, CR.str_one] at $h:ident)

variable {Γ : Wd} {k : Nat} {f : Addr} {fd : FuncData}
local macro_rules | `(tactic| ktf_call "C") => `(tactic| refine spRowEnd.mk (by ktf_call "side") (by ktf_call "side") (by ktf_call "side") ?_)
/-- a row as the program holds it -/
abbrev rowO (cR : Addr) (r : RowT) : D := rowD cR (r.1 : Nat) (r.2.1 : Nat) r.2.2
inductive spParRows (cR : Addr) : FnS
  | mk {t : List Nat} {a l w : Nat} {S : Sto} {Q : D → Sto → Prop} {E : Addr → Sto → Prop} (h : t.length ≤ 50000) (h1 : a ≤ l) (h2 : l ≤ t.length) (h3 : 2 ≤ w) (q : Q (.lst ((parRows w a (seg t a l)).map (rowO cR))) S) : spParRows cR [.str t, .int a, .int l, .int w] S Q E
theorem ok_paragraph_rows {cR : Addr} (F : FnP Γ "paragraph_rows" s_paragraph_rows f fd) (h_row_end : Fn Γ "row_end" 3 spRowEnd) (h_Row : Cn Γ "Row" cR 1 (spRowI cR)) : OkD Γ 4 f fd ["text", "start", "last", "width"] (spParRows cR) := by
  refine okD F sc_paragraph_rows nm_paragraph_rows (by decide +kernel) (fun ds S Q E h => by cases h; rfl) (fun X B ds Q E G h => ?_)
  have Gg := G.g
  cases h with
  | @mk t a l w _ _ _ h1 h2 h3 hw q =>
    show wSs Γ X B _ [.val (.str t), .val (.int a), .val (.int l), .val (.int w), .no, .no] B.S _
    ktf_call "go"
    refine wS_while Gg (fun n ρ S => ∃ (s : Nat) (done : List RowT), ρ = [.val (.str t), .val (.int s), .val (.int l), .val (.int w), .own (done.map (rowO cR)), .val (.int ((s + rowLen w (seg t s l) : Nat) : Int))] ∧ S = B.S ∧ n = l - s ∧ a ≤ s ∧ s ≤ l ∧ done.length ≤ s - a ∧ done ++ parRows w s (seg t s l) = parRows w a (seg t a l)) _ ⟨a, [], rfl, rfl, rfl, by omega, h2, by simp, rfl⟩ ?_
    rintro n ρ S ⟨s, done, rfl, rfl, rfl, hs1, hs2, hs3, hs4⟩
    ktf_call "go"
    refine ⟨fun hz => ?_, fun hz => ?_⟩
    · ktf_call ("bz", hz)
      have hl := rowLen_seg hw h3 (a := s) (by omega)
      rw [parRows_seg hw h3 hs2, if_pos hz] at hs4
      ktf_call "go"
      refine eFrz (C := cR) (eNew Gg h_Row (by decide) (by ktf_call "Kd") ?_)
      ktf_call "go"
      intro q hq hq0
      refine spRowI.mk put_same ⟨rfl, q, _, _, rfl, hq, hq0, put_put, ?_⟩
      refine ⟨by rw [List.length_map]; omega, ?_⟩
      ktf_call "go"
      refine ⟨l - (s + rowLen w (seg t s l)), by omega, s + rowLen w (seg t s l), done ++ [(s, s + rowLen w (seg t s l), true)], ?_, rfl, rfl, by omega, by omega, by rw [List.length_append, List.length_singleton]; omega, by rw [← hs4]; simp⟩
      rw [List.map_append]
      rfl
    · ktf_call ("bz", hz)
      rw [parRows_seg hw h3 hs2, if_neg (by omega)] at hs4
      ktf_call "go"
      refine eFrz (C := cR) (eNew Gg h_Row (by decide) (by ktf_call "Kd") ?_)
      ktf_call "go"
      intro q0 hq hq0
      refine spRowI.mk put_same ⟨rfl, q0, _, _, rfl, hq, hq0, put_put, ?_⟩
      refine ⟨by rw [List.length_map]; omega, ?_⟩
      refine sFrz (x := "found") G (by ktf_call "At") (by ktf_call "Up") ?_
      ktf_call "go"
      rw [show done.map (rowO cR) ++ [D.obj cR [("start", .int (s : Nat)), ("end", .int (l : Nat)), ("is_soft", .bl false)]] = (done ++ [(s, l, false)]).map (rowO cR) by rw [List.map_append]; rfl, hs4]
      exact q
end Hd

end

section
namespace Hd
open PySem PySem.Spec PyProof.Rows L2 CR
local macro_rules | `(tactic| ktf_call "At") => `(tactic| with_reducible (repeat (first | exact CR.At.hd | apply CR.At.tl)))
local macro_rules | `(tactic| ktf_call "Up") => `(tactic| with_reducible (repeat (first | exact CR.UpF.hd | apply CR.UpF.tl)))
local macro_rules | `(tactic| ktf_call "Kd") => `(tactic| with_reducible (repeat (first | exact CR.Kd.hd | apply CR.Kd.tl)))
local macro_rules | `(tactic| ktf_call "KdV") => `(tactic| first | (refine Or.inl ?_; ktf_call "Kd"; done) | (refine Or.inr (Or.inl ?_); ktf_call "Kd"; done) | (refine Or.inr (Or.inr ?_); ktf_call "Kd"; done))
local macro_rules | `(tactic| ktf_call "KdL") => `(tactic| first | (refine Or.inl ?_; ktf_call "Kd"; done) | (refine Or.inr ?_; ktf_call "Kd"; done))
local macro_rules | `(tactic| ktf_call "side") => `(tactic| first | with_reducible assumption | omega | (simp only [List.length_nil, List.length_cons, List.length_append, List.length_map, List.length_take, List.length_drop]; omega) | decide)
local macro_rules | `(tactic| ktf_call "St") => `(tactic| first | with_reducible assumption | with_reducible exact CR.put_same)
local macro_rules | `(tactic| ktf_call "C") => `(tactic| fail)
local macro_rules | `(tactic| ktf_call "O") => `(tactic| fail)
local macro_rules | `(tactic| ktf_call "E") => `(tactic| first
  | ((with_reducible show CR.wE _ _ _ (.Name _ _) _ _ _); refine CR.eN (by assumption) (by ktf_call "At") (by ktf_call "KdV") ?_)
  | refine CR.wE_int ?_
  | with_reducible refine CR.wE_sp ?_
  | with_reducible refine CR.wE_nl ?_
  | with_reducible refine CR.wE_em ?_
  | refine CR.wE_str ?_
  | refine CR.wE_bool ?_
  | refine CR.wE_none ?_
  | ((with_reducible show CR.wE _ _ _ (.Attribute (.Name _ _) _ _) _ _ _); refine Hd.eSelf (by assumption) (by with_reducible assumption) (by ktf_call "At") (by ktf_call "KdV") (by ktf_call "St") (by with_reducible constructor) ?_)
  | refine CR.wE_bin ?_
  | ((with_reducible show CR.wE _ _ _ (.Call (.Name _ _) _ _ _) _ _ _); refine CR.eCall (by assumption) (by with_reducible assumption) (by first | decide | omega) (by ktf_call "Kd") ?_)
  | (((with_reducible show CR.wE _ _ _ (.Call (.Name _ _) _ _ _) _ _ _); refine CR.eIsX (by assumption) (by ktf_call "Kd") (by with_reducible assumption) ?_))
  | ((with_reducible show CR.wE _ _ _ (.Call (.Name _ _) _ _ _) _ _ _); refine CR.eBltS (by assumption) (by with_reducible constructor) (by ktf_call "Kd") (by with_reducible assumption) ?_)
  | ((with_reducible show CR.wE _ _ _ (.Call (.Name _ _) _ _ _) _ _ _); refine CR.eBtyS (by assumption) (by with_reducible constructor) (by ktf_call "Kd") (by with_reducible assumption) ?_)
  | ((with_reducible show CR.wE _ _ _ (.Name _ _) _ _ _); refine CR.eGlob (by assumption) (by with_reducible assumption) (by ktf_call "Kd") ?_)
  | refine CR.wE_cmp ?_
  | refine CR.eChain ?_
  | refine CR.wE_slice ?_
  | refine CR.wE_subS ?_
  | refine CR.wE_tup ?_
  | refine CR.wE_lst ?_
  | refine CR.wE_neg ?_
  | refine CR.wE_if ?_
  | ((with_reducible show CR.wE _ _ _ (.Call (.Attribute _ _ _) _ _ _) _ _ _); refine CR.wE_meth0 (by assumption) (by with_reducible assumption) (by first | decide | omega) ?_)
  | ((with_reducible show CR.wE _ _ _ (.Call (.Attribute _ _ _) _ _ _) _ _ _); refine CR.wE_meth (by assumption) (by with_reducible assumption) (by first | decide | omega) ?_)
  | ((with_reducible show CR.wE _ _ _ (.Attribute _ _ _) _ _ _); refine CR.wE_fld (by assumption) ?_)
  | with_reducible refine CR.put2E ?_)
local macro_rules | `(tactic| ktf_call "T") => `(tactic| first
  | refine CR.wT_cmp ?_
  | refine CR.tChain ?_
  | refine CR.wT_not ?_
  | refine CR.wT_val (by assumption) ?_)
local macro_rules | `(tactic| ktf_call "S") => `(tactic| first
  | refine CR.wS_ret ?_
  | refine CR.wS_if ?_
  | ((with_reducible show CR.wS _ _ _ (.Assign [.Attribute _ _ _] _ _) _ _ _); refine Hd.sSelf (by assumption) (by with_reducible assumption) (by ktf_call "At") (by ktf_call "KdV") ?_)
  | ((with_reducible show CR.wS _ _ _ (.Assign [.Name _ _] (.List _ _) _) _ _ _); refine CR.sOwn (es := []) (by assumption) (by ktf_call "Up") (by ktf_call "KdL") ?_)
  | ((with_reducible show CR.wS _ _ _ (.Expr (.Call (.Attribute _ _ _) _ _ _) _) _ _ _); refine CR.sApp (by assumption) (by ktf_call "At") (by ktf_call "Up") (by ktf_call "KdV") ?_)
  | ((with_reducible show CR.wS _ _ _ (.Expr (.Call (.Attribute _ _ _) _ _ _) _) _ _ _); refine CR.sExt (by assumption) (by ktf_call "At") (by ktf_call "Up") (by ktf_call "KdV") ?_)
  | ((with_reducible show CR.wS _ _ _ (.Assign [.Name _ _] _ _) _ _ _); refine CR.sSet (by assumption) (by ktf_call "Up") (by ktf_call "KdL") ?_)
  | ((with_reducible show CR.wS _ _ _ (.Raise _ _ _) _ _ _); refine CR.sRaise (by assumption) (by with_reducible assumption) (by ktf_call "Kd") ?_)
  | refine CR.wS_expr ?_
  | refine CR.wS_pass ?_
  | refine CR.wS_retN ?_)
local macro_rules | `(tactic| ktf_call "SS") => `(tactic| first
  | with_reducible refine CR.put2S ?_
  | refine CR.wSs_cons ?_
  | refine CR.wSs_nil ?_)
local macro_rules | `(tactic| ktf_call "OB") => `(tactic| first
  | ((with_reducible show CR.BltS _ _ _ _ [.str _] _); with_reducible refine CR.bltSR (CR.lenS (by ktf_call "side")) ?_) | ((with_reducible show CR.BltS _ _ _ _ [.lst _] _); with_reducible refine CR.bltSR (CR.lenL (by assumption)) ?_) | ((with_reducible show CR.BltS _ _ _ _ [.tup _] _); with_reducible refine CR.bltSR (CR.lenT (by assumption)) ?_)
  | ((with_reducible show CR.BltS _ _ _ _ [.ref _] _); with_reducible refine CR.lenR (by with_reducible assumption) (by ktf_call "St") ?_)
  | with_reducible refine CR.bltSR (CR.min2N (by assumption)) ?_ | with_reducible refine CR.bltSR (CR.max2N (by assumption)) ?_
  | with_reducible refine CR.bltSR (CR.ordS) ?_ | with_reducible refine CR.bltSR (CR.absI) ?_ | with_reducible refine CR.bltSR (CR.max2 (by assumption)) ?_ | with_reducible refine CR.bltSR (CR.min2 (by assumption)) ?_
  | with_reducible refine CR.bltSR (CR.copyL (by assumption)) ?_
  | with_reducible refine CR.bltSR (CR.intI) ?_ | with_reducible refine CR.bltSR (CR.intB) ?_)
local macro_rules | `(tactic| ktf_call "OS") => `(tactic| first
  | ((with_reducible show CR.SubS _ _ _ (.str _) _ _); with_reducible refine CR.subSR (CR.subSn (by ktf_call "side") (by ktf_call "side")) ?_) | ((with_reducible show CR.SubS _ _ _ (.str _) _ _); with_reducible refine CR.subSR (CR.subSi (by ktf_call "side") (by ktf_call "side") (by ktf_call "side")) ?_) | ((with_reducible show CR.SubS _ _ _ (.lst _) _ _); with_reducible refine CR.subSR (CR.subLn (by assumption) (by ktf_call "side")) ?_) | ((with_reducible show CR.SubS _ _ _ (.tup _) _ _); with_reducible refine CR.subSR (CR.subTn (by assumption) (by ktf_call "side")) ?_))
local macro_rules | `(tactic| ktf_call "OA") => `(tactic| first
  | with_reducible refine CR.opI (CR.addI) ?_ | with_reducible refine CR.opI (CR.subI) ?_ | ((with_reducible show ∃ z, CR.BinR _ _ _ (.str _) _ z ∧ _); with_reducible refine CR.opI (CR.addS (by ktf_call "side")) ?_)
  | ((with_reducible show ∃ z, CR.BinR _ _ .Mult _ _ z ∧ _); refine CR.opI (CR.mulA (by ktf_call "side") (by ktf_call "side")) ?_) | ((with_reducible show ∃ z, CR.BinR _ _ .FloorDiv _ _ z ∧ _); refine CR.opI (CR.divA (by ktf_call "side") (by ktf_call "side")) ?_) | ((with_reducible show ∃ z, CR.BinR _ _ .Mod _ _ z ∧ _); refine CR.opI (CR.modI (by ktf_call "side")) ?_))
local macro_rules | `(tactic| ktf_call "OC") => `(tactic| first
  | with_reducible refine CR.opI (CR.ltI) ?_ | with_reducible refine CR.opI (CR.leI) ?_ | with_reducible refine CR.opI (CR.gtI) ?_ | with_reducible refine CR.opI (CR.geI) ?_ | with_reducible refine CR.opI (CR.eqI) ?_ | with_reducible refine CR.opI (CR.neI) ?_
  | with_reducible refine CR.opI (CR.eqS) ?_ | with_reducible refine CR.opI (CR.neS) ?_ | with_reducible refine CR.opI (CR.isN) ?_ | with_reducible refine CR.opI (CR.notN) ?_ | with_reducible refine CR.opI (CR.inC) ?_ | with_reducible refine CR.opI (CR.leS) ?_)
local macro_rules | `(tactic| ktf_call "OL") => `(tactic| first
  | ((with_reducible show ∃ z, CR.SlcR _ _ (.str _) (some _) (some _) z ∧ _); with_reducible refine CR.opI (CR.slcN (by ktf_call "side") (by ktf_call "side") (by ktf_call "side")) ?_)
  | ((with_reducible show ∃ z, CR.SlcR _ _ (.str _) none _ z ∧ _); with_reducible refine CR.opI (CR.slcTo (by ktf_call "side") (by ktf_call "side")) ?_) | ((with_reducible show ∃ z, CR.SlcR _ _ (.str _) _ none z ∧ _); with_reducible refine CR.opI (CR.slcFrom (by ktf_call "side") (by ktf_call "side")) ?_) | ((with_reducible show ∃ z, CR.SlcR _ _ (.str _) _ _ z ∧ _); with_reducible refine CR.opI (CR.slcS (by ktf_call "side")) ?_) | with_reducible refine CR.opI (CR.slcL (by assumption)) ?_)
local macro_rules | `(tactic| ktf_call "AA") => `(tactic| first | refine CR.wA_nil ?_ | refine CR.wA_cons ?_ | with_reducible refine CR.put2A ?_)
local macro_rules | `(tactic| ktf_call "M") => `(tactic| first
  | ((with_reducible show CR.Recv _ _ _ _ ∧ _); with_reducible refine And.intro (Hd.recvS (by ktf_call "St") (by with_unfolding_all rfl)) ?_)
  | ((with_reducible show ∃ s d s', _ ∧ Hd.ShW s _ _ s' ∧ _); with_reducible refine Hd.shwO (by ktf_call "St") (by with_reducible constructor) ?_)
  | with_reducible refine CR.fldO (by with_reducible assumption) (by with_unfolding_all rfl) ?_
  | ((with_reducible show ∃ C' fs' d', ((∃ a, CR.D.ref _ = CR.D.ref a ∧ _) ∨ _) ∧ _); with_reducible refine CR.fldR (by ktf_call "St") (by with_reducible assumption) (by with_unfolding_all rfl) ?_)
  | with_reducible refine ⟨_, CR.TruD.bl _, ?_⟩
  | ((with_reducible show @LE.le _ _ _ _ ∧ _); with_reducible refine CR.and_le (by ktf_call "side") ?_) | ((with_reducible show @LT.lt _ _ _ _ ∧ _); with_reducible refine CR.and_lt (by ktf_call "side") ?_)
  | ((with_reducible apply CR.pureI); focus (intro Q q; ktf_call "go"; exact q))
  | with_reducible refine ⟨_, _, _, _, rfl, by assumption, by assumption, ?_⟩
  | refine CR.wP_none ?_ | (refine CR.wP_some ?_) | refine CR.opI rfl ?_)
local macro_rules | `(tactic| ktf_call "one") => `(tactic| first
  | (refine CR.isE ?_; ktf_call "E")
  | (refine CR.isA ?_; ktf_call "AA")
  | (refine CR.isBlt ?_; ktf_call "OB")
  | (refine CR.isSub ?_; ktf_call "OS")
  | (refine CR.isBin ?_; ktf_call "OA")
  | (refine CR.isCmp ?_; first | ktf_call "O" | ktf_call "OC")
  | (refine CR.isSlc ?_; ktf_call "OL"))
local macro_rules | `(tactic| ktf_call "goE") => `(tactic| repeat (first | ktf_call "one" | ktf_call "C" | ktf_call "M"))
local macro_rules | `(tactic| ktf_call "go") => `(tactic| repeat (first | (refine CR.isSs ?_; ktf_call "SS") | (refine CR.isS ?_; first | with_reducible refine CR.put2s ?_ | ktf_call "S") | ktf_call "one" | (refine CR.isT ?_; first | with_reducible refine CR.put2T ?_ | ktf_call "T") | ktf_call "C" | ktf_call "M"))
local macro_rules | `(tactic| ktf_call ("bz", $h:ident)) => `(tactic| simp only [Bool.and_eq_true, Bool.or_eq_true, Bool.not_eq_true', Bool.not_eq_false', decide_eq_true_eq, decide_eq_false_iff_not, Bool.and_eq_false_iff, Bool.or_eq_false_iff, Int.ofNat_lt, Int.ofNat_le, Int.natCast_inj, CR.s_blank, CR.s_nl, CR.s_empty, CR.str_one] at $h:ident)

variable {Γ : Wd} {k : Nat} {f : Addr} {fd : FuncData}
abbrev paraO (x : Nat × List Nat) : D := .tup [.int (x.1 : Nat), .int ((x.1 + x.2.length : Nat) : Int)]
inductive spParas : FnS
  | mk {t : List Nat} {S : Sto} {Q : D → Sto → Prop} {E : Addr → Sto → Prop} (h : t.length ≤ 50000) (q : Q (.lst ((offs 0 (splitN 10 t)).map paraO)) S) : spParas [.str t] S Q E
theorem offs_append : ∀ (a : Nat) (ps : List (List Nat)) (q : List Nat), offs a (ps ++ [q]) = offs a ps ++ [(a + (ps.map fun x => x.length + 1).sum, q)]
  | a, [], q => by simp [offs]
  | a, p :: ps, q => by
    rw [List.cons_append, offs, offs, offs_append, List.cons_append, List.map_cons, List.sum_cons, show a + p.length + 1 + (ps.map fun x => x.length + 1).sum = a + (p.length + 1 + (ps.map fun x => x.length + 1).sum) by omega]
theorem offs_len : ∀ (a : Nat) (ps : List (List Nat)), (offs a ps).length = ps.length
  | _, [] => rfl
  | a, p :: ps => by rw [offs, List.length_cons, offs_len, List.length_cons]
theorem ok_paragraphs (F : FnP Γ "paragraphs" s_paragraphs f fd) (b_len : Γ.mg "len" = none) : OkD Γ 1 f fd ["text"] spParas := by
  refine okD F sc_paragraphs nm_paragraphs (by decide +kernel) (fun ds S Q E h => by cases h; rfl) (fun X B ds Q E G h => ?_)
  have Gg := G.g
  cases h with
  | @mk t _ _ _ h1 q =>
    show wSs Γ X B _ [.val (.str t), .no, .no, .no] B.S _
    ktf_call "go"
    refine wS_for Gg [3] (wI_lst Gg (wE_bm Gg ?_))
    ktf_call "go"
    refine ⟨_, _, m_split, tyStr, ?_⟩
    ktf_call "go"
    refine opI (splitD (by ktf_call "side")) ?_
    ktf_call "go"
    refine forQ (g := .str) (fun pre ρ S => (∃ sl, ρ = [.val (.str t), .own ((offs 0 pre).map paraO), .val (.int (((pre.map fun x => x.length + 1).sum : Nat) : Int)), sl]) ∧ S = B.S) ⟨⟨_, rfl⟩, rfl⟩ (fun y pre post ρ' S' hxs hW => ?_) (fun ρ' S' hW => ?_)
    · obtain ⟨⟨sl, rfl⟩, rfl⟩ := hW
      obtain ⟨hp1, hp2⟩ := parts_seg 10 t hxs
      have hp3 := len_le_sum (g := fun x : List Nat => x.length + 1) pre (fun _ _ => by omega)
      refine ⟨_, gNm (i := 3) Gg rfl (by ktf_call "Kd") (by decide), ?_⟩
      show wSs Γ X B _ [_, _, _, .val (.str y)] _ _
      ktf_call "go"
      refine ⟨by rw [List.length_map, offs_len]; omega, ?_⟩
      ktf_call "go"
      refine ⟨⟨⟨.val (.str y), ?_⟩, rfl⟩⟩
      rw [offs_append, List.map_append, List.map_append, List.sum_append, Nat.zero_add]
      rw [show (((pre.map fun x => x.length + 1).sum + (([y] : List (List Nat)).map fun x => x.length + 1).sum : Nat) : Int) = (((pre.map fun x => x.length + 1).sum : Nat) : Int) + (y.length : Int) + 1 by simp only [List.map_cons, List.map_nil, List.sum_cons, List.sum_nil]; omega]
      rfl
    · obtain ⟨⟨sl, rfl⟩, rfl⟩ := hW
      refine sFrz (x := "found") G (by ktf_call "At") (by ktf_call "Up") ?_
      ktf_call "go"
      exact q
local macro_rules | `(tactic| ktf_call "C") => `(tactic| first | refine spParas.mk (by ktf_call "side") ?_ | refine spParRows.mk (by ktf_call "side") (by ktf_call "side") (by ktf_call "side") (by ktf_call "side") ?_)
inductive spRowsOf (cR : Addr) : FnS
  | mk {t : List Nat} {w : Nat} {S : Sto} {Q : D → Sto → Prop} {E : Addr → Sto → Prop} (h : t.length ≤ 50000) (hw : 2 ≤ w) (q : Q (.lst ((rowsOf w t).map (rowO cR))) S) : spRowsOf cR [.str t, .int w] S Q E
theorem ok_rows_of {cR : Addr} (F : FnP Γ "rows_of" s_rows_of f fd) (h_paragraphs : Fn Γ "paragraphs" 1 spParas) (h_pr : Fn Γ "paragraph_rows" 4 (spParRows cR)) : OkD Γ 5 f fd ["text", "width"] (spRowsOf cR) := by
  refine okD F sc_rows_of nm_rows_of (by decide +kernel) (fun ds S Q E h => by cases h; rfl) (fun X B ds Q E G h => ?_)
  have Gg := G.g
  cases h with
  | @mk t w _ _ _ h1 hw q =>
    show wSs Γ X B _ [.val (.str t), .val (.int w), .no, .no, .no] B.S _
    ktf_call "go"
    refine wS_for Gg [3, 4] (wI_lst Gg ?_)
    ktf_call "go"
    refine forQ (g := paraO) (fun pre ρ S => (∃ s1 s2, ρ = [.val (.str t), .val (.int w), .own ((pre.flatMap fun x => parRows w x.1 x.2).map (rowO cR)), s1, s2]) ∧ S = B.S) ⟨⟨_, _, rfl⟩, rfl⟩ (fun y pre post ρ' S' hxs hW => ?_) (fun ρ' S' hW => ?_)
    · obtain ⟨⟨s1, s2, rfl⟩, rfl⟩ := hW
      obtain ⟨hy1, hy2⟩ := offs_seg (t := t) (x := y) (by rw [hxs]; simp)
      have hl := offs_pre hw (t := t) (pre := pre ++ [y]) (post := post) (by rw [hxs]; simp)
      have hs := offs_sum t
      rw [hxs, List.map_append, List.map_cons, List.sum_append, List.sum_cons] at hs
      rw [List.flatMap_append, List.flatMap_singleton, List.length_append, List.map_append, List.sum_append, List.map_singleton, List.sum_singleton] at hl
      refine ⟨_, wG_tup Gg (wGs_cons (gNm (i := 3) Gg rfl (by ktf_call "Kd") (by decide)) (wGs_cons (gNm (i := 4) Gg rfl (by ktf_call "Kd") (by decide)) wGs_nil)) rfl, ?_⟩
      show wSs Γ X B _ [_, _, _, .val (.int (y.1 : Nat)), .val (.int ((y.1 + y.2.length : Nat) : Int))] _ _
      ktf_call "go"
      refine ⟨by rw [List.length_map, List.length_map, hy2]; omega, ?_⟩
      ktf_call "go"
      refine ⟨⟨⟨.val (.int (y.1 : Nat)), .val (.int ((y.1 + y.2.length : Nat) : Int)), ?_⟩, rfl⟩⟩
      rw [List.flatMap_append, List.flatMap_singleton, List.map_append, hy2]
    · obtain ⟨⟨s1, s2, rfl⟩, rfl⟩ := hW
      refine sFrz (x := "found") G (by ktf_call "At") (by ktf_call "Up") ?_
      ktf_call "go"
      rw [← rowsOf_offs]
      exact q
local macro_rules | `(tactic| ktf_call "C") => `(tactic| first | refine spLookText.mk (by ktf_call "side") ?_ ?_ | refine spLookWidth.mk ?_ ?_ | refine spRowsOf.mk (by ktf_call "side") (by ktf_call "side") ?_)
abbrev rowT (r : RowT) : D := .tup [.int (r.1 : Nat), .int (r.2.1 : Nat), .bl r.2.2]
end Hd

end

section
namespace Hd
open PySem PySem.Spec PyProof.Rows L2 CR
local macro_rules | `(tactic| ktf_call "At") => `(tactic| with_reducible (repeat (first | exact CR.At.hd | apply CR.At.tl)))
local macro_rules | `(tactic| ktf_call "Up") => `(tactic| with_reducible (repeat (first | exact CR.UpF.hd | apply CR.UpF.tl)))
local macro_rules | `(tactic| ktf_call "Kd") => `(tactic| with_reducible (repeat (first | exact CR.Kd.hd | apply CR.Kd.tl)))
local macro_rules | `(tactic| ktf_call "KdV") => `(tactic| first | (refine Or.inl ?_; ktf_call "Kd"; done) | (refine Or.inr (Or.inl ?_); ktf_call "Kd"; done) | (refine Or.inr (Or.inr ?_); ktf_call "Kd"; done))
local macro_rules | `(tactic| ktf_call "KdL") => `(tactic| first | (refine Or.inl ?_; ktf_call "Kd"; done) | (refine Or.inr ?_; ktf_call "Kd"; done))
local macro_rules | `(tactic| ktf_call "side") => `(tactic| first | with_reducible assumption | omega | (simp only [List.length_nil, List.length_cons, List.length_append, List.length_map, List.length_take, List.length_drop]; omega) | decide)
local macro_rules | `(tactic| ktf_call "St") => `(tactic| first | with_reducible assumption | with_reducible exact CR.put_same)
local macro_rules | `(tactic| ktf_call "C") => `(tactic| fail)
local macro_rules | `(tactic| ktf_call "O") => `(tactic| fail)
local macro_rules | `(tactic| ktf_call "E") => `(tactic| first
  | ((with_reducible show CR.wE _ _ _ (.Name _ _) _ _ _); refine CR.eN (by assumption) (by ktf_call "At") (by ktf_call "KdV") ?_)
  | refine CR.wE_int ?_
  | with_reducible refine CR.wE_sp ?_
  | with_reducible refine CR.wE_nl ?_
  | with_reducible refine CR.wE_em ?_
  | refine CR.wE_str ?_
  | refine CR.wE_bool ?_
  | refine CR.wE_none ?_
  | ((with_reducible show CR.wE _ _ _ (.Attribute (.Name _ _) _ _) _ _ _); refine Hd.eSelf (by assumption) (by with_reducible assumption) (by ktf_call "At") (by ktf_call "KdV") (by ktf_call "St") (by with_reducible constructor) ?_)
  | refine CR.wE_bin ?_
  | ((with_reducible show CR.wE _ _ _ (.Call (.Name _ _) _ _ _) _ _ _); refine CR.eCall (by assumption) (by with_reducible assumption) (by first | decide | omega) (by ktf_call "Kd") ?_)
  | (((with_reducible show CR.wE _ _ _ (.Call (.Name _ _) _ _ _) _ _ _); refine CR.eIsX (by assumption) (by ktf_call "Kd") (by with_reducible assumption) ?_))
  | ((with_reducible show CR.wE _ _ _ (.Call (.Name _ _) _ _ _) _ _ _); refine CR.eBltS (by assumption) (by with_reducible constructor) (by ktf_call "Kd") (by with_reducible assumption) ?_)
  | ((with_reducible show CR.wE _ _ _ (.Call (.Name _ _) _ _ _) _ _ _); refine CR.eBtyS (by assumption) (by with_reducible constructor) (by ktf_call "Kd") (by with_reducible assumption) ?_)
  | ((with_reducible show CR.wE _ _ _ (.Name _ _) _ _ _); refine CR.eGlob (by assumption) (by with_reducible assumption) (by ktf_call "Kd") ?_)
  | refine CR.wE_cmp ?_
  | refine CR.eChain ?_
  | refine CR.wE_slice ?_
  | refine CR.wE_subS ?_
  | refine CR.wE_tup ?_
  | refine CR.wE_lst ?_
  | refine CR.wE_neg ?_
  | refine CR.wE_if ?_
  | ((with_reducible show CR.wE _ _ _ (.Call (.Attribute _ _ _) _ _ _) _ _ _); refine CR.wE_meth0 (by assumption) (by with_reducible assumption) (by first | decide | omega) ?_)
  | ((with_reducible show CR.wE _ _ _ (.Call (.Attribute _ _ _) _ _ _) _ _ _); refine CR.wE_meth (by assumption) (by with_reducible assumption) (by first | decide | omega) ?_)
  | ((with_reducible show CR.wE _ _ _ (.Attribute _ _ _) _ _ _); refine CR.wE_fld (by assumption) ?_)
  | with_reducible refine CR.put2E ?_)
local macro_rules | `(tactic| ktf_call "T") => `(tactic| first
  | refine CR.wT_cmp ?_
  | refine CR.tChain ?_
  | refine CR.wT_not ?_
  | refine CR.wT_val (by assumption) ?_)
local macro_rules | `(tactic| ktf_call "S") => `(tactic| first
  | refine CR.wS_ret ?_
  | refine CR.wS_if ?_
  | ((with_reducible show CR.wS _ _ _ (.Assign [.Attribute _ _ _] _ _) _ _ _); refine Hd.sSelf (by assumption) (by with_reducible assumption) (by ktf_call "At") (by ktf_call "KdV") ?_)
  | ((with_reducible show CR.wS _ _ _ (.Assign [.Name _ _] (.List _ _) _) _ _ _); refine CR.sOwn (es := []) (by assumption) (by ktf_call "Up") (by ktf_call "KdL") ?_)
  | ((with_reducible show CR.wS _ _ _ (.Expr (.Call (.Attribute _ _ _) _ _ _) _) _ _ _); refine CR.sApp (by assumption) (by ktf_call "At") (by ktf_call "Up") (by ktf_call "KdV") ?_)
  | ((with_reducible show CR.wS _ _ _ (.Expr (.Call (.Attribute _ _ _) _ _ _) _) _ _ _); refine CR.sExt (by assumption) (by ktf_call "At") (by ktf_call "Up") (by ktf_call "KdV") ?_)
  | ((with_reducible show CR.wS _ _ _ (.Assign [.Name _ _] _ _) _ _ _); refine CR.sSet (by assumption) (by ktf_call "Up") (by ktf_call "KdL") ?_)
  | ((with_reducible show CR.wS _ _ _ (.Raise _ _ _) _ _ _); refine CR.sRaise (by assumption) (by with_reducible assumption) (by ktf_call "Kd") ?_)
  | refine CR.wS_expr ?_
  | refine CR.wS_pass ?_
  | refine CR.wS_retN ?_)
local macro_rules | `(tactic| ktf_call "SS") => `(tactic| first
  | with_reducible refine CR.put2S ?_
  | refine CR.wSs_cons ?_
  | refine CR.wSs_nil ?_)
local macro_rules | `(tactic| ktf_call "OB") => `(tactic| first
  | ((with_reducible show CR.BltS _ _ _ _ [.str _] _); with_reducible refine CR.bltSR (CR.lenS (by ktf_call "side")) ?_) | ((with_reducible show CR.BltS _ _ _ _ [.lst _] _); with_reducible refine CR.bltSR (CR.lenL (by assumption)) ?_) | ((with_reducible show CR.BltS _ _ _ _ [.tup _] _); with_reducible refine CR.bltSR (CR.lenT (by assumption)) ?_)
  | ((with_reducible show CR.BltS _ _ _ _ [.ref _] _); with_reducible refine CR.lenR (by with_reducible assumption) (by ktf_call "St") ?_)
  | with_reducible refine CR.bltSR (CR.min2N (by assumption)) ?_ | with_reducible refine CR.bltSR (CR.max2N (by assumption)) ?_
  | with_reducible refine CR.bltSR (CR.ordS) ?_ | with_reducible refine CR.bltSR (CR.absI) ?_ | with_reducible refine CR.bltSR (CR.max2 (by assumption)) ?_ | with_reducible refine CR.bltSR (CR.min2 (by assumption)) ?_
  | with_reducible refine CR.bltSR (CR.copyL (by assumption)) ?_
  | with_reducible refine CR.bltSR (CR.intI) ?_ | with_reducible refine CR.bltSR (CR.intB) ?_)
local macro_rules | `(tactic| ktf_call "OS") => `(tactic| first
  | ((with_reducible show CR.SubS _ _ _ (.str _) _ _); with_reducible refine CR.subSR (CR.subSn (by ktf_call "side") (by ktf_call "side")) ?_) | ((with_reducible show CR.SubS _ _ _ (.str _) _ _); with_reducible refine CR.subSR (CR.subSi (by ktf_call "side") (by ktf_call "side") (by ktf_call "side")) ?_) | ((with_reducible show CR.SubS _ _ _ (.lst _) _ _); with_reducible refine CR.subSR (CR.subLn (by assumption) (by ktf_call "side")) ?_) | ((with_reducible show CR.SubS _ _ _ (.tup _) _ _); with_reducible refine CR.subSR (CR.subTn (by assumption) (by ktf_call "side")) ?_))
local macro_rules | `(tactic| ktf_call "OA") => `(tactic| first
  | with_reducible refine CR.opI (CR.addI) ?_ | with_reducible refine CR.opI (CR.subI) ?_ | ((with_reducible show ∃ z, CR.BinR _ _ _ (.str _) _ z ∧ _); with_reducible refine CR.opI (CR.addS (by ktf_call "side")) ?_)
  | ((with_reducible show ∃ z, CR.BinR _ _ .Mult _ _ z ∧ _); refine CR.opI (CR.mulA (by ktf_call "side") (by ktf_call "side")) ?_) | ((with_reducible show ∃ z, CR.BinR _ _ .FloorDiv _ _ z ∧ _); refine CR.opI (CR.divA (by ktf_call "side") (by ktf_call "side")) ?_) | ((with_reducible show ∃ z, CR.BinR _ _ .Mod _ _ z ∧ _); refine CR.opI (CR.modI (by ktf_call "side")) ?_))
local macro_rules | `(tactic| ktf_call "OC") => `(tactic| first
  | with_reducible refine CR.opI (CR.ltI) ?_ | with_reducible refine CR.opI (CR.leI) ?_ | with_reducible refine CR.opI (CR.gtI) ?_ | with_reducible refine CR.opI (CR.geI) ?_ | with_reducible refine CR.opI (CR.eqI) ?_ | with_reducible refine CR.opI (CR.neI) ?_
  | with_reducible refine CR.opI (CR.eqS) ?_ | with_reducible refine CR.opI (CR.neS) ?_ | with_reducible refine CR.opI (CR.isN) ?_ | with_reducible refine CR.opI (CR.notN) ?_ | with_reducible refine CR.opI (CR.inC) ?_ | with_reducible refine CR.opI (CR.leS) ?_)
local macro_rules | `(tactic| ktf_call "OL") => `(tactic| first
  | ((with_reducible show ∃ z, CR.SlcR _ _ (.str _) (some _) (some _) z ∧ _); with_reducible refine CR.opI (CR.slcN (by ktf_call "side") (by ktf_call "side") (by ktf_call "side")) ?_)
  | ((with_reducible show ∃ z, CR.SlcR _ _ (.str _) none _ z ∧ _); with_reducible refine CR.opI (CR.slcTo (by ktf_call "side") (by ktf_call "side")) ?_) | ((with_reducible show ∃ z, CR.SlcR _ _ (.str _) _ none z ∧ _); with_reducible refine CR.opI (CR.slcFrom (by ktf_call "side") (by ktf_call "side")) ?_) | ((with_reducible show ∃ z, CR.SlcR _ _ (.str _) _ _ z ∧ _); with_reducible refine CR.opI (CR.slcS (by ktf_call "side")) ?_) | with_reducible refine CR.opI (CR.slcL (by assumption)) ?_)
local macro_rules | `(tactic| ktf_call "AA") => `(tactic| first | refine CR.wA_nil ?_ | refine CR.wA_cons ?_ | with_reducible refine CR.put2A ?_)
local macro_rules | `(tactic| ktf_call "M") => `(tactic| first
  | ((with_reducible show CR.Recv _ _ _ _ ∧ _); with_reducible refine And.intro (Hd.recvS (by ktf_call "St") (by with_unfolding_all rfl)) ?_)
  | ((with_reducible show ∃ s d s', _ ∧ Hd.ShW s _ _ s' ∧ _); with_reducible refine Hd.shwO (by ktf_call "St") (by with_reducible constructor) ?_)
  | with_reducible refine CR.fldO (by with_reducible assumption) (by with_unfolding_all rfl) ?_
  | ((with_reducible show ∃ C' fs' d', ((∃ a, CR.D.ref _ = CR.D.ref a ∧ _) ∨ _) ∧ _); with_reducible refine CR.fldR (by ktf_call "St") (by with_reducible assumption) (by with_unfolding_all rfl) ?_)
  | with_reducible refine ⟨_, CR.TruD.bl _, ?_⟩
  | ((with_reducible show @LE.le _ _ _ _ ∧ _); with_reducible refine CR.and_le (by ktf_call "side") ?_) | ((with_reducible show @LT.lt _ _ _ _ ∧ _); with_reducible refine CR.and_lt (by ktf_call "side") ?_)
  | ((with_reducible apply CR.pureI); focus (intro Q q; ktf_call "go"; exact q))
  | with_reducible refine ⟨_, _, _, _, rfl, by assumption, by assumption, ?_⟩
  | refine CR.wP_none ?_ | (refine CR.wP_some ?_) | refine CR.opI rfl ?_)
local macro_rules | `(tactic| ktf_call "one") => `(tactic| first
  | (refine CR.isE ?_; ktf_call "E")
  | (refine CR.isA ?_; ktf_call "AA")
  | (refine CR.isBlt ?_; ktf_call "OB")
  | (refine CR.isSub ?_; ktf_call "OS")
  | (refine CR.isBin ?_; ktf_call "OA")
  | (refine CR.isCmp ?_; first | ktf_call "O" | ktf_call "OC")
  | (refine CR.isSlc ?_; ktf_call "OL"))
local macro_rules | `(tactic| ktf_call "goE") => `(tactic| repeat (first | ktf_call "one" | ktf_call "C" | ktf_call "M"))
local macro_rules | `(tactic| ktf_call "go") => `(tactic| repeat (first | (refine CR.isSs ?_; ktf_call "SS") | (refine CR.isS ?_; first | with_reducible refine CR.put2s ?_ | ktf_call "S") | ktf_call "one" | (refine CR.isT ?_; first | with_reducible refine CR.put2T ?_ | ktf_call "T") | ktf_call "C" | ktf_call "M"))
local macro_rules | `(tactic| ktf_call ("bz", $h:ident)) => `(tactic| simp only [Bool.and_eq_true, Bool.or_eq_true, Bool.not_eq_true', Bool.not_eq_false', decide_eq_true_eq, decide_eq_false_iff_not, Bool.and_eq_false_iff, Bool.or_eq_false_iff, Int.ofNat_lt, Int.ofNat_le, Int.natCast_inj, CR.s_blank, CR.s_nl, CR.s_empty, CR.str_one] at $h:ident)

variable {Γ : Wd} {k : Nat} {f : Addr} {fd : FuncData}
inductive spLookOffset (cP : Addr) : FnS
  | mk {t : List Nat} {o : Int} {S : Sto} {Q : D → Sto → Prop} {E : Addr → Sto → Prop} (h : t.length ≤ 50000) (q : 0 ≤ o → o ≤ t.length → Q .non S) (e : ¬ (0 ≤ o ∧ o ≤ t.length) → E cP S) : spLookOffset cP [.str t, .int o] S Q E
theorem ok_look_offset {cP : Addr} (F : FnP Γ "look_offset" s_look_offset f fd) (b_len : Γ.mg "len" = none) (xP : ExK Γ "BadPlace" cP) : OkD Γ 1 f fd ["text", "offset"] (spLookOffset cP) := by
  refine okD F sc_look_offset nm_look_offset (by decide +kernel) (fun ds S Q E h => by cases h; rfl) (fun X B ds Q E G h => ?_)
  have Gg := G.g
  cases h with
  | @mk t o _ _ _ h q e =>
    show wSs Γ X B _ [.val (.str t), .val (.int o)] B.S _
    ktf_call "go"
    refine ⟨fun hz => ?_, fun hz => ?_⟩
    · ktf_call ("bz", hz)
      ktf_call "go"
      exact e (by omega)
    · ktf_call ("bz", hz)
      ktf_call "go"
      exact q hz.1 hz.2
end Hd

end

section
namespace Hd
open PySem PySem.Spec PyProof.Rows L2 CR
local macro_rules | `(tactic| ktf_call "At") => `(tactic| with_reducible (repeat (first | exact CR.At.hd | apply CR.At.tl)))
local macro_rules | `(tactic| ktf_call "Up") => `(tactic| with_reducible (repeat (first | exact CR.UpF.hd | apply CR.UpF.tl)))
local macro_rules | `(tactic| ktf_call "Kd") => `(tactic| with_reducible (repeat (first | exact CR.Kd.hd | apply CR.Kd.tl)))
local macro_rules | `(tactic| ktf_call "KdV") => `(tactic| first | (refine Or.inl ?_; ktf_call "Kd"; done) | (refine Or.inr (Or.inl ?_); ktf_call "Kd"; done) | (refine Or.inr (Or.inr ?_); ktf_call "Kd"; done))
local macro_rules | `(tactic| ktf_call "KdL") => `(tactic| first | (refine Or.inl ?_; ktf_call "Kd"; done) | (refine Or.inr ?_; ktf_call "Kd"; done))
local macro_rules | `(tactic| ktf_call "side") => `(tactic| first | with_reducible assumption | omega | (simp only [List.length_nil, List.length_cons, List.length_append, List.length_map, List.length_take, List.length_drop]; omega) | decide)
local macro_rules | `(tactic| ktf_call "St") => `(tactic| first | with_reducible assumption | with_reducible exact CR.put_same)
local macro_rules | `(tactic| ktf_call "C") => `(tactic| fail)
local macro_rules | `(tactic| ktf_call "O") => `(tactic| fail)
local macro_rules | `(tactic| ktf_call "E") => `(tactic| first
  | ((with_reducible show CR.wE _ _ _ (.Name _ _) _ _ _); refine CR.eN (by assumption) (by ktf_call "At") (by ktf_call "KdV") ?_)
  | refine CR.wE_int ?_
  | with_reducible refine CR.wE_sp ?_
  | with_reducible refine CR.wE_nl ?_
  | with_reducible refine CR.wE_em ?_
  | refine CR.wE_str ?_
  | refine CR.wE_bool ?_
  | refine CR.wE_none ?_
  | ((with_reducible show CR.wE _ _ _ (.Attribute (.Name _ _) _ _) _ _ _); refine Hd.eSelf (by assumption) (by with_reducible assumption) (by ktf_call "At") (by ktf_call "KdV") (by ktf_call "St") (by with_reducible constructor) ?_)
  | refine CR.wE_bin ?_
  | ((with_reducible show CR.wE _ _ _ (.Call (.Name _ _) _ _ _) _ _ _); refine CR.eCall (by assumption) (by with_reducible assumption) (by first | decide | omega) (by ktf_call "Kd") ?_)
  | (((with_reducible show CR.wE _ _ _ (.Call (.Name _ _) _ _ _) _ _ _); refine CR.eIsX (by assumption) (by ktf_call "Kd") (by with_reducible assumption) ?_))
  | ((with_reducible show CR.wE _ _ _ (.Call (.Name _ _) _ _ _) _ _ _); refine CR.eBltS (by assumption) (by with_reducible constructor) (by ktf_call "Kd") (by with_reducible assumption) ?_)
  | ((with_reducible show CR.wE _ _ _ (.Call (.Name _ _) _ _ _) _ _ _); refine CR.eBtyS (by assumption) (by with_reducible constructor) (by ktf_call "Kd") (by with_reducible assumption) ?_)
  | ((with_reducible show CR.wE _ _ _ (.Name _ _) _ _ _); refine CR.eGlob (by assumption) (by with_reducible assumption) (by ktf_call "Kd") ?_)
  | refine CR.wE_cmp ?_
  | refine CR.eChain ?_
  | refine CR.wE_slice ?_
  | refine CR.wE_subS ?_
  | refine CR.wE_tup ?_
  | refine CR.wE_lst ?_
  | refine CR.wE_neg ?_
  | refine CR.wE_if ?_
  | ((with_reducible show CR.wE _ _ _ (.Call (.Attribute _ _ _) _ _ _) _ _ _); refine CR.wE_meth0 (by assumption) (by with_reducible assumption) (by first | decide | omega) ?_)
  | ((with_reducible show CR.wE _ _ _ (.Call (.Attribute _ _ _) _ _ _) _ _ _); refine CR.wE_meth (by assumption) (by with_reducible assumption) (by first | decide | omega) ?_)
  | ((with_reducible show CR.wE _ _ _ (.Attribute _ _ _) _ _ _); refine CR.wE_fld (by assumption) ?_)
  | with_reducible refine CR.put2E ?_)
local macro_rules | `(tactic| ktf_call "T") => `(tactic| first
  | refine CR.wT_cmp ?_
  | refine CR.tChain ?_
  | refine CR.wT_not ?_
  | refine CR.wT_val (by assumption) ?_)
local macro_rules | `(tactic| ktf_call "S") => `(tactic| first
  | refine CR.wS_ret ?_
  | refine CR.wS_if ?_
  | ((with_reducible show CR.wS _ _ _ (.Assign [.Attribute _ _ _] _ _) _ _ _); refine Hd.sSelf (by assumption) (by with_reducible assumption) (by ktf_call "At") (by ktf_call "KdV") ?_)
  | ((with_reducible show CR.wS _ _ _ (.Assign [.Name _ _] (.List _ _) _) _ _ _); refine CR.sOwn (es := []) (by assumption) (by ktf_call "Up") (by ktf_call "KdL") ?_)
  | ((with_reducible show CR.wS _ _ _ (.Expr (.Call (.Attribute _ _ _) _ _ _) _) _ _ _); refine CR.sApp (by assumption) (by ktf_call "At") (by ktf_call "Up") (by ktf_call "KdV") ?_)
  | ((with_reducible show CR.wS _ _ _ (.Expr (.Call (.Attribute _ _ _) _ _ _) _) _ _ _); refine CR.sExt (by assumption) (by ktf_call "At") (by ktf_call "Up") (by ktf_call "KdV") ?_)
  | ((with_reducible show CR.wS _ _ _ (.Assign [.Name _ _] _ _) _ _ _); refine CR.sSet (by assumption) (by ktf_call "Up") (by ktf_call "KdL") ?_)
  | ((with_reducible show CR.wS _ _ _ (.Raise _ _ _) _ _ _); refine CR.sRaise (by assumption) (by with_reducible assumption) (by ktf_call "Kd") ?_)
  | refine CR.wS_expr ?_
  | refine CR.wS_pass ?_
  | refine CR.wS_retN ?_)
local macro_rules | `(tactic| ktf_call "SS") => `(tactic| first
  | with_reducible refine CR.put2S ?_
  | refine CR.wSs_cons ?_
  | refine CR.wSs_nil ?_)
local macro_rules | `(tactic| ktf_call "OB") => `(tactic| first
  | ((with_reducible show CR.BltS _ _ _ _ [.str _] _); with_reducible refine CR.bltSR (CR.lenS (by ktf_call "side")) ?_) | ((with_reducible show CR.BltS _ _ _ _ [.lst _] _); with_reducible refine CR.bltSR (CR.lenL (by assumption)) ?_) | ((with_reducible show CR.BltS _ _ _ _ [.tup _] _); with_reducible refine CR.bltSR (CR.lenT (by assumption)) ?_)
  | ((with_reducible show CR.BltS _ _ _ _ [.ref _] _); with_reducible refine CR.lenR (by with_reducible assumption) (by ktf_call "St") ?_)
  | with_reducible refine CR.bltSR (CR.min2N (by assumption)) ?_ | with_reducible refine CR.bltSR (CR.max2N (by assumption)) ?_
  | with_reducible refine CR.bltSR (CR.ordS) ?_ | with_reducible refine CR.bltSR (CR.absI) ?_ | with_reducible refine CR.bltSR (CR.max2 (by assumption)) ?_ | with_reducible refine CR.bltSR (CR.min2 (by assumption)) ?_
  | with_reducible refine CR.bltSR (CR.copyL (by assumption)) ?_
  | with_reducible refine CR.bltSR (CR.intI) ?_ | with_reducible refine CR.bltSR (CR.intB) ?_)
local macro_rules | `(tactic| ktf_call "OS") => `(tactic| first
  | ((with_reducible show CR.SubS _ _ _ (.str _) _ _); with_reducible refine CR.subSR (CR.subSn (by ktf_call "side") (by ktf_call "side")) ?_) | ((with_reducible show CR.SubS _ _ _ (.str _) _ _); with_reducible refine CR.subSR (CR.subSi (by ktf_call "side") (by ktf_call "side") (by ktf_call "side")) ?_) | ((with_reducible show CR.SubS _ _ _ (.lst _) _ _); with_reducible refine CR.subSR (CR.subLn (by assumption) (by ktf_call "side")) ?_) | ((with_reducible show CR.SubS _ _ _ (.tup _) _ _); with_reducible refine CR.subSR (CR.subTn (by assumption) (by ktf_call "side")) ?_))
local macro_rules | `(tactic| ktf_call "OA") => `(tactic| first
  | with_reducible refine CR.opI (CR.addI) ?_ | with_reducible refine CR.opI (CR.subI) ?_ | ((with_reducible show ∃ z, CR.BinR _ _ _ (.str _) _ z ∧ _); with_reducible refine CR.opI (CR.addS (by ktf_call "side")) ?_)
  | ((with_reducible show ∃ z, CR.BinR _ _ .Mult _ _ z ∧ _); refine CR.opI (CR.mulA (by ktf_call "side") (by ktf_call "side")) ?_) | ((with_reducible show ∃ z, CR.BinR _ _ .FloorDiv _ _ z ∧ _); refine CR.opI (CR.divA (by ktf_call "side") (by ktf_call "side")) ?_) | ((with_reducible show ∃ z, CR.BinR _ _ .Mod _ _ z ∧ _); refine CR.opI (CR.modI (by ktf_call "side")) ?_))
local macro_rules | `(tactic| ktf_call "OC") => `(tactic| first
  | with_reducible refine CR.opI (CR.ltI) ?_ | with_reducible refine CR.opI (CR.leI) ?_ | with_reducible refine CR.opI (CR.gtI) ?_ | with_reducible refine CR.opI (CR.geI) ?_ | with_reducible refine CR.opI (CR.eqI) ?_ | with_reducible refine CR.opI (CR.neI) ?_
  | with_reducible refine CR.opI (CR.eqS) ?_ | with_reducible refine CR.opI (CR.neS) ?_ | with_reducible refine CR.opI (CR.isN) ?_ | with_reducible refine CR.opI (CR.notN) ?_ | with_reducible refine CR.opI (CR.inC) ?_ | with_reducible refine CR.opI (CR.leS) ?_)
local macro_rules | `(tactic| ktf_call "OL") => `(tactic| first
  | ((with_reducible show ∃ z, CR.SlcR _ _ (.str _) (some _) (some _) z ∧ _); with_reducible refine CR.opI (CR.slcN (by ktf_call "side") (by ktf_call "side") (by ktf_call "side")) ?_)
  | ((with_reducible show ∃ z, CR.SlcR _ _ (.str _) none _ z ∧ _); with_reducible refine CR.opI (CR.slcTo (by ktf_call "side") (by ktf_call "side")) ?_) | ((with_reducible show ∃ z, CR.SlcR _ _ (.str _) _ none z ∧ _); with_reducible refine CR.opI (CR.slcFrom (by ktf_call "side") (by ktf_call "side")) ?_) | ((with_reducible show ∃ z, CR.SlcR _ _ (.str _) _ _ z ∧ _); with_reducible refine CR.opI (CR.slcS (by ktf_call "side")) ?_) | with_reducible refine CR.opI (CR.slcL (by assumption)) ?_)
local macro_rules | `(tactic| ktf_call "AA") => `(tactic| first | refine CR.wA_nil ?_ | refine CR.wA_cons ?_ | with_reducible refine CR.put2A ?_)
local macro_rules | `(tactic| ktf_call "M") => `(tactic| first
  | ((with_reducible show CR.Recv _ _ _ _ ∧ _); with_reducible refine And.intro (Hd.recvS (by ktf_call "St") (by with_unfolding_all rfl)) ?_)
  | ((with_reducible show ∃ s d s', _ ∧ Hd.ShW s _ _ s' ∧ _); with_reducible refine Hd.shwO (by ktf_call "St") (by with_reducible constructor) ?_)
  | with_reducible refine CR.fldO (by with_reducible assumption) (by with_unfolding_all rfl) ?_
  | ((with_reducible show ∃ C' fs' d', ((∃ a, CR.D.ref _ = CR.D.ref a ∧ _) ∨ _) ∧ _); with_reducible refine CR.fldR (by ktf_call "St") (by with_reducible assumption) (by with_unfolding_all rfl) ?_)
  | with_reducible refine ⟨_, CR.TruD.bl _, ?_⟩
  | ((with_reducible show @LE.le _ _ _ _ ∧ _); with_reducible refine CR.and_le (by ktf_call "side") ?_) | ((with_reducible show @LT.lt _ _ _ _ ∧ _); with_reducible refine CR.and_lt (by ktf_call "side") ?_)
  | ((with_reducible apply CR.pureI); focus (intro Q q; ktf_call "go"; exact q))
  | with_reducible refine ⟨_, _, _, _, rfl, by assumption, by assumption, ?_⟩
  | refine CR.wP_none ?_ | (refine CR.wP_some ?_) | refine CR.opI rfl ?_)
local macro_rules | `(tactic| ktf_call "one") => `(tactic| first
  | (refine CR.isE ?_; ktf_call "E")
  | (refine CR.isA ?_; ktf_call "AA")
  | (refine CR.isBlt ?_; ktf_call "OB")
  | (refine CR.isSub ?_; ktf_call "OS")
  | (refine CR.isBin ?_; ktf_call "OA")
  | (refine CR.isCmp ?_; first | ktf_call "O" | ktf_call "OC")
  | (refine CR.isSlc ?_; ktf_call "OL"))
local macro_rules | `(tactic| ktf_call "goE") => `(tactic| repeat (first | ktf_call "one" | ktf_call "C" | ktf_call "M"))
local macro_rules | `(tactic| ktf_call "go") => `(tactic| repeat (first | (refine CR.isSs ?_; ktf_call "SS") | (refine CR.isS ?_; first | with_reducible refine CR.put2s ?_ | ktf_call "S") | ktf_call "one" | (refine CR.isT ?_; first | with_reducible refine CR.put2T ?_ | ktf_call "T") | ktf_call "C" | ktf_call "M"))
local macro_rules | `(tactic| ktf_call ("bz", $h:ident)) => `(tactic| simp only [Bool.and_eq_true, Bool.or_eq_true, Bool.not_eq_true', Bool.not_eq_false', decide_eq_true_eq, decide_eq_false_iff_not, Bool.and_eq_false_iff, Bool.or_eq_false_iff, Int.ofNat_lt, Int.ofNat_le, Int.natCast_inj, CR.s_blank, CR.s_nl, CR.s_empty, CR.str_one] at $h:ident)

variable {Γ : Wd} {k : Nat} {f : Addr} {fd : FuncData}
local macro_rules | `(tactic| ktf_call "C") => `(tactic| first | refine spWide.mk (by ktf_call "side") ?_ | with_reducible refine CR.opI (CR.slcN (by ktf_call "side") (by ktf_call "side") (by ktf_call "side")) ?_)
theorem rows_at {cR : Addr} {R : List RowT} {i : Nat} (h : i < R.length) : (R.map (rowO cR)).getD i .non = rowO cR (rowD0 R i) := by
  unfold rowD0
  rw [List.getD_eq_getElem?_getD, List.getD_eq_getElem?_getD, List.getElem?_map, List.getElem?_eq_getElem h]
  rfl
inductive spRowAt (cR : Addr) : FnS
  | mk {R : List RowT} {o : Nat} {b : Bool} {S : Sto} {Q : D → Sto → Prop} {E : Addr → Sto → Prop} (h : R ≠ []) (hl : R.length ≤ 50000) (q : Q (.int ((rowAt o b R : Nat) : Int)) S) : spRowAt cR [.lst (R.map (rowO cR)), .int o, .bl b] S Q E
theorem ok_row_at {cR : Addr} (F : FnP Γ "row_at" s_row_at f fd) (b_range : Γ.mg "range" = none) (b_len : Γ.mg "len" = none) (f2 : Fld Γ cR "end") (f3 : Fld Γ cR "is_soft") : OkD Γ 1 f fd ["rows", "offset", "is_back"] (spRowAt cR) := by
  refine okD F sc_row_at nm_row_at (by decide +kernel) (fun ds S Q E h => by cases h; rfl) (fun X B ds Q E G h => ?_)
  have Gg := G.g
  cases h with
  | @mk R o b _ _ _ h hl q =>
    have hp := List.length_pos_iff.mpr h
    show wSs Γ X B _ [.val (.lst (R.map (rowO cR))), .val (.int o), .val (.bl b), .no, .no] B.S _
    refine wSs_cons (wS_for Gg [3] (iR1 Gg (by ktf_call "Kd") b_range ?_))
    ktf_call "go"
    rw [List.length_map]
    refine forQ (g := fun i => D.int (i : Nat)) (fun pre ρ S => (∃ s3 s4, ρ = [.val (.lst (R.map (rowO cR))), .val (.int o), .val (.bl b), s3, s4]) ∧ S = B.S ∧ ∀ i ∈ pre, rowHit o b (rowD0 R i) = false) ⟨⟨_, _, rfl⟩, rfl, fun _ z => by cases z⟩ (fun y pre post ρ' S' hxs hW => ?_) (fun ρ' S' hW => ?_)
    · obtain ⟨⟨s3, s4, rfl⟩, rfl, hpre⟩ := hW
      obtain ⟨hy1, hy2⟩ := range_split hxs
      refine ⟨_, gNm (i := 3) Gg rfl (by ktf_call "Kd") (by decide), ?_⟩
      show wSs Γ X B _ [_, _, _, .val (.int (y : Nat)), _] _ _
      ktf_call "go"
      rw [rows_at hy2]
      ktf_call "go"
      refine wT_p (z := rowHit o b (rowD0 R y)) ?w1 ⟨fun hz => ?w2, fun hz => ?w3⟩
      case w1 =>
        unfold rowHit
        refine pT_W (pW_or (fun _ hq => ?v1) fun _ => pW_or1 (pT_W (pW_and (fun _ hq => ?v2) fun _ => pW_and1 (pT_W (pW_or (pT_not fun _ hq => ?v3) fun _ => pW_or1 fun _ hq => ?v4)))))
        case v1 =>
          ktf_call "go"
          rw [show decide ((o : Int) < ((rowD0 R y).2.1 : Nat)) = decide (o < (rowD0 R y).2.1) from decide_eq_decide.mpr (by omega)]
          exact hq
        case v2 =>
          ktf_call "go"
          rw [show decide ((o : Int) = ((rowD0 R y).2.1 : Nat)) = decide (o = (rowD0 R y).2.1) from decide_eq_decide.mpr (by omega)]
          exact hq
        case v3 =>
          ktf_call "go"
          exact hq
        case v4 =>
          ktf_call "go"
          exact hq
      case w2 =>
        have e : rowAt o b R = y := by
          have hsp : R = R.take y ++ rowD0 R y :: R.drop (y + 1) := by
            unfold rowD0
            rw [List.getD_eq_getElem?_getD, List.getElem?_eq_getElem hy2]
            show R = R.take y ++ R[y] :: R.drop (y + 1)
            rw [← List.drop_eq_getElem_cons hy2, List.take_append_drop]
          have z := rowAt_hit (o := o) (b := b) (y := rowD0 R y) (post := R.drop (y + 1)) (pre := R.take y) (fun x hx => by
            obtain ⟨i, hi, rfl⟩ := List.mem_iff_getElem.mp hx
            have hi2 : i < y := by rw [List.length_take] at hi; omega
            have hm : i ∈ pre := by rw [range_pre hxs]; exact List.mem_range.mpr hi2
            have := hpre i hm
            unfold rowD0 at this
            rw [List.getD_eq_getElem?_getD, List.getElem?_eq_getElem (by omega)] at this
            rw [List.getElem_take]
            exact this) hz
          rw [← hsp, List.length_take] at z
          omega
        rw [e] at q
        ktf_call "go"
        exact q
      case w3 =>
        ktf_call "go"
        refine ⟨⟨_, _, rfl⟩, rfl, fun i hi => ?_⟩
        rcases List.mem_append.mp hi with h | h
        · exact hpre i h
        · rw [List.mem_singleton.mp h]
          exact hz
    · obtain ⟨⟨s3, s4, rfl⟩, rfl, hpre⟩ := hW
      have e : rowAt o b R = R.length - 1 := rowAt_none fun x hx => by
        obtain ⟨i, hi, rfl⟩ := List.mem_iff_getElem.mp hx
        have := hpre i (List.mem_range.mpr hi)
        unfold rowD0 at this
        rw [List.getD_eq_getElem?_getD, List.getElem?_eq_getElem hi] at this
        exact this
      ktf_call "go"
      rw [List.length_map, show ((R.length : Nat) : Int) - 1 = ((R.length - 1 : Nat) : Int) by omega, ← e]
      exact q
inductive spColumn (cR : Addr) : FnS
  | mk {t : List Nat} {r : RowT} {o : Nat} {S : Sto} {Q : D → Sto → Prop} {E : Addr → Sto → Prop} (h : t.length ≤ 50000) (h1 : r.1 ≤ o) (h2 : o ≤ t.length) (q : Q (.int ((colOf t r o : Nat) : Int)) S) : spColumn cR [.str t, rowO cR r, .int o] S Q E
theorem ok_column_of {cR : Addr} (F : FnP Γ "column_of" s_column_of f fd) (h_wide : Fn Γ "wide" 1 spWide) (f1 : Fld Γ cR "start") : OkD Γ 2 f fd ["text", "row", "offset"] (spColumn cR) := by
  refine okD F sc_column_of nm_column_of (by decide +kernel) (fun ds S Q E h => by cases h; rfl) (fun X B ds Q E G h => ?_)
  have Gg := G.g
  cases h with
  | @mk t r o _ _ _ h h1 h2 q =>
    show wSs Γ X B _ [.val (.str t), .val (rowO cR r), .val (.int o)] B.S _
    ktf_call "go"
    refine spWide.mk (by rw [seg_len h2]; omega) ?_
    exact q
local macro_rules | `(tactic| ktf_call "C") => `(tactic| refine spColumn.mk (by ktf_call "side") (by ktf_call "side") (by ktf_call "side") ?_)
inductive spOffsetAt (cR : Addr) : FnS
  | mk {t : List Nat} {r : RowT} {c : Nat} {S : Sto} {Q : D → Sto → Prop} {E : Addr → Sto → Prop} (h : t.length ≤ 50000) (h1 : r.1 ≤ r.2.1) (h2 : r.2.1 ≤ t.length) (q : Q (.int ((nearO t r c : Nat) : Int)) S) : spOffsetAt cR [.str t, rowO cR r, .int c] S Q E
theorem abs_dst {t : List Nat} {a c o : Nat} : (if ((wideN (seg t a o) : Nat) : Int) - (c : Nat) < 0 then -(((wideN (seg t a o) : Nat) : Int) - (c : Nat)) else ((wideN (seg t a o) : Nat) : Int) - (c : Nat)) = ((dst t a c o : Nat) : Int) := by
  unfold dst
  split <;> omega
theorem ok_offset_at {cR : Addr} (F : FnP Γ "offset_at" s_offset_at f fd) (h_column : Fn Γ "column_of" 2 (spColumn cR)) (b_range : Γ.mg "range" = none) (b_abs : Γ.mg "abs" = none) (f1 : Fld Γ cR "start") (f2 : Fld Γ cR "end") : OkD Γ 3 f fd ["text", "row", "column"] (spOffsetAt cR) := by
  refine okD F sc_offset_at nm_offset_at (by decide +kernel) (fun ds S Q E h => by cases h; rfl) (fun X B ds Q E G h => ?_)
  have Gg := G.g
  cases h with
  | @mk t r c _ _ _ h h1 h2 q =>
    show wSs Γ X B _ [.val (.str t), .val (rowO cR r), .val (.int c), .no, .no] B.S _
    ktf_call "go"
    refine wS_for Gg [4] (iR2 Gg (by ktf_call "Kd") b_range ?_)
    ktf_call "go"
    refine ⟨_, _, rfl, ⟨by omega, by omega, by omega, by omega⟩, ?_⟩
    rw [show (((r.2.1 : Nat) : Int) + 1 - (r.1 : Nat)).toNat = r.2.1 - r.1 + 1 by omega]
    refine forQ (g := fun i => D.int (((r.1 : Nat) : Int) + ((i : Nat) : Int))) (fun pre ρ S => (∃ s4, ρ = [.val (.str t), .val (rowO cR r), .val (.int c), .val (.int ((nearF (dst t r.1 c) (pre.map fun i => r.1 + i) r.1 : Nat) : Int)), s4]) ∧ S = B.S ∧ r.1 ≤ nearF (dst t r.1 c) (pre.map fun i => r.1 + i) r.1 ∧ nearF (dst t r.1 c) (pre.map fun i => r.1 + i) r.1 ≤ r.2.1) ⟨⟨_, rfl⟩, rfl, Nat.le_refl _, h1⟩ (fun y pre post ρ' S' hxs hW => ?_) (fun ρ' S' hW => ?_)
    · obtain ⟨⟨s4, rfl⟩, rfl, hn1, hn2⟩ := hW
      obtain ⟨hy1, hy2⟩ := range_split hxs
      have e : nearF (dst t r.1 c) ((pre ++ [y]).map fun i => r.1 + i) r.1 = if dst t r.1 c (r.1 + y) < dst t r.1 c (nearF (dst t r.1 c) (pre.map fun i => r.1 + i) r.1) then r.1 + y else nearF (dst t r.1 c) (pre.map fun i => r.1 + i) r.1 := by
        rw [List.map_append, nearF_append]
        rfl
      generalize hg : nearF (dst t r.1 c) (pre.map fun i => r.1 + i) r.1 = m at *
      refine ⟨_, gNm (i := 4) Gg rfl (by ktf_call "Kd") (by decide), ?_⟩
      show wSs Γ X B _ [_, _, _, _, .val (.int ((r.1 : Nat) + (y : Nat) : Int))] _ _
      rw [show ((r.1 : Nat) : Int) + (y : Nat) = ((r.1 + y : Nat) : Int) by omega]
      ktf_call "go"
      unfold colOf
      rw [abs_dst, abs_dst]
      ktf_call "go"
      refine ⟨fun hz => ?_, fun hz => ?_⟩
      · ktf_call ("bz", hz)
        ktf_call "go"
        rw [if_pos hz] at e
        refine ⟨⟨⟨.val (.int ((r.1 + y : Nat) : Int)), ?_⟩, rfl, by omega, by omega⟩⟩
        rw [e]
      · ktf_call ("bz", hz)
        ktf_call "go"
        rw [if_neg hz] at e
        refine ⟨⟨⟨.val (.int ((r.1 + y : Nat) : Int)), ?_⟩, rfl, by omega, by omega⟩⟩
        rw [e]
    · obtain ⟨⟨s4, rfl⟩, rfl, hn1, hn2⟩ := hW
      ktf_call "go"
      have e : nearO t r c = nearF (dst t r.1 c) ((List.range (r.2.1 - r.1 + 1)).map fun i => r.1 + i) r.1 := by
        unfold nearO
        rw [List.range'_eq_map_range]
      rw [e] at q
      exact q
inductive spSoftEnd (cR : Addr) : FnS
  | mk {R : List RowT} {n o : Nat} {S : Sto} {Q : D → Sto → Prop} {E : Addr → Sto → Prop} (h : n < R.length) (q : Q (.bl (softEnd R n o)) S) : spSoftEnd cR [.lst (R.map (rowO cR)), .int n, .int o] S Q E
theorem ok_is_soft_end {cR : Addr} (F : FnP Γ "is_soft_end" s_is_soft_end f fd) (f2 : Fld Γ cR "end") (f3 : Fld Γ cR "is_soft") : OkD Γ 1 f fd ["rows", "number", "offset"] (spSoftEnd cR) := by
  refine okD F sc_is_soft_end nm_is_soft_end (by decide +kernel) (fun ds S Q E h => by cases h; rfl) (fun X B ds Q E G h => ?_)
  have Gg := G.g
  cases h with
  | @mk R n o _ _ _ h q =>
    show wSs Γ X B _ [.val (.lst (R.map (rowO cR))), .val (.int n), .val (.int o), .no] B.S _
    ktf_call "go"
    rw [rows_at h]
    ktf_call "go"
    refine pE_and (y := (rowD0 R n).2.2) (z := decide (o = (rowD0 R n).2.1)) (fun Q q => ?_) (fun _ => pE_one fun Q q => ?_) _ q
    · ktf_call "go"
      exact q
    · ktf_call "go"
      ktf_call "go"
      rw [show decide ((o : Int) = ((rowD0 R n).2.1 : Nat)) = decide (o = (rowD0 R n).2.1) from decide_eq_decide.mpr (by omega)]
      exact q
end Hd

end

section
namespace Hd
open PySem PySem.Spec PyProof.Rows L2 CR
variable {Γ : Wd} {k : Nat} {f : Addr} {fd : FuncData}
abbrev FnM (Γ : Wd) (m qual : Str) (st : Stmt) (f : Addr) (fd : FuncData) : Prop := FunD Γ.K m qual (defArgs st) (defBody st) (defScope st) [] [] f fd
def wishD : Option Nat → D
  | none => .non
  | some n => .int (n : Nat)
def shF (s : Sh) (d : Addr) : List (Str × D) := [("now", .str s.now), ("width", .int (s.width : Nat)), ("height", .int (s.height : Nat)), ("caret", .int (s.caret : Nat)), ("is_back", .bl s.back), ("anchor", .int (s.anchor : Nat)), ("wish", wishD s.wish), ("first", .int (s.first : Nat)), ("marked", .ref d)]
abbrev insS (cS : Addr) (s : Sh) (d : Addr) : Ob := .ins cS (shF s d)
structure FSh (Γ : Wd) (cS : Addr) : Prop where
  now : Fld Γ cS "now"
  width : Fld Γ cS "width"
  height : Fld Γ cS "height"
  caret : Fld Γ cS "caret"
  back : Fld Γ cS "is_back"
  anchor : Fld Γ cS "anchor"
  wish : Fld Γ cS "wish"
  first : Fld Γ cS "first"
  marked : Fld Γ cS "marked"
inductive ShF (s : Sh) (d : Addr) : Str → D → Prop
  | now : ShF s d "now" (.str s.now)
  | width : ShF s d "width" (.int (s.width : Nat))
  | height : ShF s d "height" (.int (s.height : Nat))
  | caret : ShF s d "caret" (.int (s.caret : Nat))
  | back : ShF s d "is_back" (.bl s.back)
  | anchor : ShF s d "anchor" (.int (s.anchor : Nat))
  | wish : ShF s d "wish" (wishD s.wish)
  | first : ShF s d "first" (.int (s.first : Nat))
  | marked : ShF s d "marked" (.ref d)
theorem ShF.lk {s : Sh} {d : Addr} {x : Str} {v : D} (h : ShF s d x v) : (shF s d).lookup x = some v := by cases h <;> rfl
theorem ShF.fld {cS : Addr} {s : Sh} {d : Addr} {x : Str} {v : D} (h : ShF s d x v) (K : FSh Γ cS) : Fld Γ cS x := by
  cases h
  · exact K.now
  · exact K.width
  · exact K.height
  · exact K.caret
  · exact K.back
  · exact K.anchor
  · exact K.wish
  · exact K.first
  · exact K.marked
inductive ShW (s : Sh) : Str → D → Sh → Prop
  | now {t : List Nat} : ShW s "now" (.str t) { s with now := t }
  | width {n : Nat} : ShW s "width" (.int (n : Nat)) { s with width := n }
  | height {n : Nat} : ShW s "height" (.int (n : Nat)) { s with height := n }
  | caret {n : Nat} : ShW s "caret" (.int (n : Nat)) { s with caret := n }
  | back {b : Bool} : ShW s "is_back" (.bl b) { s with back := b }
  | anchor {n : Nat} : ShW s "anchor" (.int (n : Nat)) { s with anchor := n }
  | wishN : ShW s "wish" .non { s with wish := none }
  | wishS {n : Nat} : ShW s "wish" (.int (n : Nat)) { s with wish := some n }
  | first {n : Nat} : ShW s "first" (.int (n : Nat)) { s with first := n }
theorem ShW.put {s s' : Sh} {d : Addr} {x : Str} {v : D} (h : ShW s x v s') : putD x v (shF s d) = shF s' d := by cases h <;> rfl
theorem ShW.fld {cS : Addr} {s s' : Sh} {x : Str} {v : D} (h : ShW s x v s') (K : FSh Γ cS) : Fld Γ cS x := by
  cases h
  · exact K.now
  · exact K.width
  · exact K.height
  · exact K.caret
  · exact K.back
  · exact K.anchor
  · exact K.wish
  · exact K.wish
  · exact K.first
section
variable {X : Cx} {B : Bs} {e : Expr} {st : Stmt} {ρ : List Sl} {S : Sto} {N : List Str} {nm : List (Str × NameKind)} {E : EK} {pos px p2 : Pos} {Q : D → Sto → Prop} {Dd : Dn} {x : Str} {cS p d : Addr} {s s' : Sh} {v : D} {fl : Str}
/-- self.f -/
theorem eSelf (G : Gd Γ X N nm k B E) (K : FSh Γ cS) (ha : At N x ρ (.val (.ref p))) (hv : KdV nm x) (hS : S p = some (insS cS s d)) (hf : ShF s d fl v) (q : Q v S) (hd : (x == ("__debug__" : Str)) = false := by decide) (hcd : (x == ("__classdict__" : Str)) = false := by decide)
    (hb : attributeBase (.Name x px) fl X.env (eval (.Name x px) X.env) = eval (.Name x px) X.env := by rfl) : wE Γ X B (.Attribute (.Name x px) fl pos) ρ S Q :=
  wE_fld G (eN G ha hv ⟨cS, shF s d, v, .inl ⟨p, rfl, hS⟩, hf.fld K, hf.lk, q⟩ hd hcd) hb
/-- self.f = e -/
theorem sSelf (G : Gd Γ X N nm k B E) (K : FSh Γ cS) (ha : At N x ρ (.val (.ref p))) (hv : KdV nm x) (h : wE Γ X B e ρ S fun y S1 => ∃ s d s', S1 p = some (insS cS s d) ∧ ShW s fl y s' ∧ Dd.nx ρ (put S1 p (insS cS s' d)))
    (hd : (x == ("__debug__" : Str)) = false := by decide) (hcd : (x == ("__classdict__" : Str)) = false := by decide) (hs : swapsWith e (some (.Attribute (.Name x px) fl p2)) pos.line X.env = pure false := by rfl) : wS Γ X B (.Assign [.Attribute (.Name x px) fl p2] e pos) ρ S Dd :=
  sFldW G (h.mono fun y S1 ⟨s, d, s', h1, h2, h3⟩ => eN G ha hv ⟨p, cS, shF s d, rfl, h1, h2.fld K, (show (9 : Nat) < 1000 by decide), by rw [h2.put]; exact h3⟩ hd hcd) hs
theorem shwO {P : Sh → Addr → Prop} {S1 : Sto} (hS : S1 p = some (insS cS s d)) (hw : ShW s fl v s') (h : P s' d) : ∃ s d s', S1 p = some (insS cS s d) ∧ ShW s fl v s' ∧ P s' d := ⟨s, d, s', hS, hw, h⟩
theorem recvS {m : Str} (hS : S p = some (insS cS s d)) (hl : (shF s d).lookup m = none) : Recv cS m (.ref p) S := .inl ⟨p, shF s d, rfl, hS, hl⟩
end
end Hd

end

section
namespace Hd
open PySem PySem.Spec PyProof.Rows L2 CR
local macro_rules | `(tactic| ktf_call "At") => `(tactic| with_reducible (repeat (first | exact CR.At.hd | apply CR.At.tl)))
local macro_rules | `(tactic| ktf_call "Up") => `(tactic| with_reducible (repeat (first | exact CR.UpF.hd | apply CR.UpF.tl)))
local macro_rules | `(tactic| ktf_call "Kd") => `(tactic| with_reducible (repeat (first | exact CR.Kd.hd | apply CR.Kd.tl)))
local macro_rules | `(tactic| ktf_call "KdV") => `(tactic| first | (refine Or.inl ?_; ktf_call "Kd"; done) | (refine Or.inr (Or.inl ?_); ktf_call "Kd"; done) | (refine Or.inr (Or.inr ?_); ktf_call "Kd"; done))
local macro_rules | `(tactic| ktf_call "KdL") => `(tactic| first | (refine Or.inl ?_; ktf_call "Kd"; done) | (refine Or.inr ?_; ktf_call "Kd"; done))
local macro_rules | `(tactic| ktf_call "side") => `(tactic| first | with_reducible assumption | omega | (simp only [List.length_nil, List.length_cons, List.length_append, List.length_map, List.length_take, List.length_drop]; omega) | decide)
local macro_rules | `(tactic| ktf_call "St") => `(tactic| first | with_reducible assumption | with_reducible exact CR.put_same)
local macro_rules | `(tactic| ktf_call "C") => `(tactic| fail)
local macro_rules | `(tactic| ktf_call "O") => `(tactic| fail)
local macro_rules | `(tactic| ktf_call "E") => `(tactic| first
  | ((with_reducible show CR.wE _ _ _ (.Name _ _) _ _ _); refine CR.eN (by assumption) (by ktf_call "At") (by ktf_call "KdV") ?_)
  | refine CR.wE_int ?_
  | with_reducible refine CR.wE_sp ?_
  | with_reducible refine CR.wE_nl ?_
  | with_reducible refine CR.wE_em ?_
  | refine CR.wE_str ?_
  | refine CR.wE_bool ?_
  | refine CR.wE_none ?_
  | ((with_reducible show CR.wE _ _ _ (.Attribute (.Name _ _) _ _) _ _ _); refine Hd.eSelf (by assumption) (by with_reducible assumption) (by ktf_call "At") (by ktf_call "KdV") (by ktf_call "St") (by with_reducible constructor) ?_)
  | refine CR.wE_bin ?_
  | ((with_reducible show CR.wE _ _ _ (.Call (.Name _ _) _ _ _) _ _ _); refine CR.eCall (by assumption) (by with_reducible assumption) (by first | decide | omega) (by ktf_call "Kd") ?_)
  | (((with_reducible show CR.wE _ _ _ (.Call (.Name _ _) _ _ _) _ _ _); refine CR.eIsX (by assumption) (by ktf_call "Kd") (by with_reducible assumption) ?_))
  | ((with_reducible show CR.wE _ _ _ (.Call (.Name _ _) _ _ _) _ _ _); refine CR.eBltS (by assumption) (by with_reducible constructor) (by ktf_call "Kd") (by with_reducible assumption) ?_)
  | ((with_reducible show CR.wE _ _ _ (.Call (.Name _ _) _ _ _) _ _ _); refine CR.eBtyS (by assumption) (by with_reducible constructor) (by ktf_call "Kd") (by with_reducible assumption) ?_)
  | ((with_reducible show CR.wE _ _ _ (.Name _ _) _ _ _); refine CR.eGlob (by assumption) (by with_reducible assumption) (by ktf_call "Kd") ?_)
  | refine CR.wE_cmp ?_
  | refine CR.eChain ?_
  | refine CR.wE_slice ?_
  | refine CR.wE_subS ?_
  | refine CR.wE_tup ?_
  | refine CR.wE_lst ?_
  | refine CR.wE_neg ?_
  | refine CR.wE_if ?_
  | ((with_reducible show CR.wE _ _ _ (.Call (.Attribute _ _ _) _ _ _) _ _ _); refine CR.wE_meth0 (by assumption) (by with_reducible assumption) (by first | decide | omega) ?_)
  | ((with_reducible show CR.wE _ _ _ (.Call (.Attribute _ _ _) _ _ _) _ _ _); refine CR.wE_meth (by assumption) (by with_reducible assumption) (by first | decide | omega) ?_)
  | ((with_reducible show CR.wE _ _ _ (.Attribute _ _ _) _ _ _); refine CR.wE_fld (by assumption) ?_)
  | with_reducible refine CR.put2E ?_)
local macro_rules | `(tactic| ktf_call "T") => `(tactic| first
  | refine CR.wT_cmp ?_
  | refine CR.tChain ?_
  | refine CR.wT_not ?_
  | refine CR.wT_val (by assumption) ?_)
local macro_rules | `(tactic| ktf_call "S") => `(tactic| first
  | refine CR.wS_ret ?_
  | refine CR.wS_if ?_
  | ((with_reducible show CR.wS _ _ _ (.Assign [.Attribute _ _ _] _ _) _ _ _); refine Hd.sSelf (by assumption) (by with_reducible assumption) (by ktf_call "At") (by ktf_call "KdV") ?_)
  | ((with_reducible show CR.wS _ _ _ (.Assign [.Name _ _] (.List _ _) _) _ _ _); refine CR.sOwn (es := []) (by assumption) (by ktf_call "Up") (by ktf_call "KdL") ?_)
  | ((with_reducible show CR.wS _ _ _ (.Expr (.Call (.Attribute _ _ _) _ _ _) _) _ _ _); refine CR.sApp (by assumption) (by ktf_call "At") (by ktf_call "Up") (by ktf_call "KdV") ?_)
  | ((with_reducible show CR.wS _ _ _ (.Expr (.Call (.Attribute _ _ _) _ _ _) _) _ _ _); refine CR.sExt (by assumption) (by ktf_call "At") (by ktf_call "Up") (by ktf_call "KdV") ?_)
  | ((with_reducible show CR.wS _ _ _ (.Assign [.Name _ _] _ _) _ _ _); refine CR.sSet (by assumption) (by ktf_call "Up") (by ktf_call "KdL") ?_)
  | ((with_reducible show CR.wS _ _ _ (.Raise _ _ _) _ _ _); refine CR.sRaise (by assumption) (by with_reducible assumption) (by ktf_call "Kd") ?_)
  | refine CR.wS_expr ?_
  | refine CR.wS_pass ?_
  | refine CR.wS_retN ?_)
local macro_rules | `(tactic| ktf_call "SS") => `(tactic| first
  | with_reducible refine CR.put2S ?_
  | refine CR.wSs_cons ?_
  | refine CR.wSs_nil ?_)
local macro_rules | `(tactic| ktf_call "OB") => `(tactic| first
  | ((with_reducible show CR.BltS _ _ _ _ [.str _] _); with_reducible refine CR.bltSR (CR.lenS (by ktf_call "side")) ?_) | ((with_reducible show CR.BltS _ _ _ _ [.lst _] _); with_reducible refine CR.bltSR (CR.lenL (by assumption)) ?_) | ((with_reducible show CR.BltS _ _ _ _ [.tup _] _); with_reducible refine CR.bltSR (CR.lenT (by assumption)) ?_)
  | ((with_reducible show CR.BltS _ _ _ _ [.ref _] _); with_reducible refine CR.lenR (by with_reducible assumption) (by ktf_call "St") ?_)
  | with_reducible refine CR.bltSR (CR.min2N (by assumption)) ?_ | with_reducible refine CR.bltSR (CR.max2N (by assumption)) ?_
  | with_reducible refine CR.bltSR (CR.ordS) ?_ | with_reducible refine CR.bltSR (CR.absI) ?_ | with_reducible refine CR.bltSR (CR.max2 (by assumption)) ?_ | with_reducible refine CR.bltSR (CR.min2 (by assumption)) ?_
  | with_reducible refine CR.bltSR (CR.copyL (by assumption)) ?_
  | with_reducible refine CR.bltSR (CR.intI) ?_ | with_reducible refine CR.bltSR (CR.intB) ?_)
local macro_rules | `(tactic| ktf_call "OS") => `(tactic| first
  | ((with_reducible show CR.SubS _ _ _ (.str _) _ _); with_reducible refine CR.subSR (CR.subSn (by ktf_call "side") (by ktf_call "side")) ?_) | ((with_reducible show CR.SubS _ _ _ (.str _) _ _); with_reducible refine CR.subSR (CR.subSi (by ktf_call "side") (by ktf_call "side") (by ktf_call "side")) ?_) | ((with_reducible show CR.SubS _ _ _ (.lst _) _ _); with_reducible refine CR.subSR (CR.subLn (by assumption) (by ktf_call "side")) ?_) | ((with_reducible show CR.SubS _ _ _ (.tup _) _ _); with_reducible refine CR.subSR (CR.subTn (by assumption) (by ktf_call "side")) ?_))
local macro_rules | `(tactic| ktf_call "OA") => `(tactic| first
  | with_reducible refine CR.opI (CR.addI) ?_ | with_reducible refine CR.opI (CR.subI) ?_ | ((with_reducible show ∃ z, CR.BinR _ _ _ (.str _) _ z ∧ _); with_reducible refine CR.opI (CR.addS (by ktf_call "side")) ?_)
  | ((with_reducible show ∃ z, CR.BinR _ _ .Mult _ _ z ∧ _); refine CR.opI (CR.mulA (by ktf_call "side") (by ktf_call "side")) ?_) | ((with_reducible show ∃ z, CR.BinR _ _ .FloorDiv _ _ z ∧ _); refine CR.opI (CR.divA (by ktf_call "side") (by ktf_call "side")) ?_) | ((with_reducible show ∃ z, CR.BinR _ _ .Mod _ _ z ∧ _); refine CR.opI (CR.modI (by ktf_call "side")) ?_))
local macro_rules | `(tactic| ktf_call "OC") => `(tactic| first
  | with_reducible refine CR.opI (CR.ltI) ?_ | with_reducible refine CR.opI (CR.leI) ?_ | with_reducible refine CR.opI (CR.gtI) ?_ | with_reducible refine CR.opI (CR.geI) ?_ | with_reducible refine CR.opI (CR.eqI) ?_ | with_reducible refine CR.opI (CR.neI) ?_
  | with_reducible refine CR.opI (CR.eqS) ?_ | with_reducible refine CR.opI (CR.neS) ?_ | with_reducible refine CR.opI (CR.isN) ?_ | with_reducible refine CR.opI (CR.notN) ?_ | with_reducible refine CR.opI (CR.inC) ?_ | with_reducible refine CR.opI (CR.leS) ?_)
local macro_rules | `(tactic| ktf_call "OL") => `(tactic| first
  | ((with_reducible show ∃ z, CR.SlcR _ _ (.str _) (some _) (some _) z ∧ _); with_reducible refine CR.opI (CR.slcN (by ktf_call "side") (by ktf_call "side") (by ktf_call "side")) ?_)
  | ((with_reducible show ∃ z, CR.SlcR _ _ (.str _) none _ z ∧ _); with_reducible refine CR.opI (CR.slcTo (by ktf_call "side") (by ktf_call "side")) ?_) | ((with_reducible show ∃ z, CR.SlcR _ _ (.str _) _ none z ∧ _); with_reducible refine CR.opI (CR.slcFrom (by ktf_call "side") (by ktf_call "side")) ?_) | ((with_reducible show ∃ z, CR.SlcR _ _ (.str _) _ _ z ∧ _); with_reducible refine CR.opI (CR.slcS (by ktf_call "side")) ?_) | with_reducible refine CR.opI (CR.slcL (by assumption)) ?_)
local macro_rules | `(tactic| ktf_call "AA") => `(tactic| first | refine CR.wA_nil ?_ | refine CR.wA_cons ?_ | with_reducible refine CR.put2A ?_)
local macro_rules | `(tactic| ktf_call "M") => `(tactic| first
  | ((with_reducible show CR.Recv _ _ _ _ ∧ _); with_reducible refine And.intro (Hd.recvS (by ktf_call "St") (by with_unfolding_all rfl)) ?_)
  | ((with_reducible show ∃ s d s', _ ∧ Hd.ShW s _ _ s' ∧ _); with_reducible refine Hd.shwO (by ktf_call "St") (by with_reducible constructor) ?_)
  | with_reducible refine CR.fldO (by with_reducible assumption) (by with_unfolding_all rfl) ?_
  | ((with_reducible show ∃ C' fs' d', ((∃ a, CR.D.ref _ = CR.D.ref a ∧ _) ∨ _) ∧ _); with_reducible refine CR.fldR (by ktf_call "St") (by with_reducible assumption) (by with_unfolding_all rfl) ?_)
  | with_reducible refine ⟨_, CR.TruD.bl _, ?_⟩
  | ((with_reducible show @LE.le _ _ _ _ ∧ _); with_reducible refine CR.and_le (by ktf_call "side") ?_) | ((with_reducible show @LT.lt _ _ _ _ ∧ _); with_reducible refine CR.and_lt (by ktf_call "side") ?_)
  | ((with_reducible apply CR.pureI); focus (intro Q q; ktf_call "go"; exact q))
  | with_reducible refine ⟨_, _, _, _, rfl, by assumption, by assumption, ?_⟩
  | refine CR.wP_none ?_ | (refine CR.wP_some ?_) | refine CR.opI rfl ?_)
local macro_rules | `(tactic| ktf_call "one") => `(tactic| first
  | (refine CR.isE ?_; ktf_call "E")
  | (refine CR.isA ?_; ktf_call "AA")
  | (refine CR.isBlt ?_; ktf_call "OB")
  | (refine CR.isSub ?_; ktf_call "OS")
  | (refine CR.isBin ?_; ktf_call "OA")
  | (refine CR.isCmp ?_; first | ktf_call "O" | ktf_call "OC")
  | (refine CR.isSlc ?_; ktf_call "OL"))
local macro_rules | `(tactic| ktf_call "goE") => `(tactic| repeat (first | ktf_call "one" | ktf_call "C" | ktf_call "M"))
local macro_rules | `(tactic| ktf_call "go") => `(tactic| repeat (first | (refine CR.isSs ?_; ktf_call "SS") | (refine CR.isS ?_; first | with_reducible refine CR.put2s ?_ | ktf_call "S") | ktf_call "one" | (refine CR.isT ?_; first | with_reducible refine CR.put2T ?_ | ktf_call "T") | ktf_call "C" | ktf_call "M"))
local macro_rules | `(tactic| ktf_call ("bz", $h:ident)) => `(tactic| simp only [Bool.and_eq_true, Bool.or_eq_true, Bool.not_eq_true', Bool.not_eq_false', decide_eq_true_eq, decide_eq_false_iff_not, Bool.and_eq_false_iff, Bool.or_eq_false_iff, Int.ofNat_lt, Int.ofNat_le, Int.natCast_inj, CR.s_blank, CR.s_nl, CR.s_empty, CR.str_one] at $h:ident)

variable {Γ : Wd} {k : Nat} {f : Addr} {fd : FuncData}
local macro_rules | `(tactic| ktf_call "C") => `(tactic| first | refine spLookText.mk (by ktf_call "side") ?_ ?_ | refine spLookWidth.mk ?_ ?_)
inductive spSInit (cS cT cZ : Addr) : FnS
  | mk {p : Addr} {t : List Nat} {w h : Int} {S : Sto} {Q : D → Sto → Prop} {E : Addr → Sto → Prop} (hS : S p = some (.ins cS [])) (hl : t.length ≤ 50000)
      (q : isTextB t = true → 2 ≤ w → w ≤ 200 → 1 ≤ h → h ≤ 100 → ∀ d, S d = none → Q .non (put (put S d (.dct [])) p (insS cS (Sh.new t w.toNat h.toNat) d))) (e1 : isTextB t = false → E cT S) (e2 : isTextB t = true → ¬ (2 ≤ w ∧ w ≤ 200 ∧ 1 ≤ h ∧ h ≤ 100) → E cZ S) : spSInit cS cT cZ [.ref p, .str t, .int w, .int h] S Q E
theorem ok_sheet_init {cS cT cZ : Addr} (F : FnM Γ "__init__" "Sheet.__init__" s_Sheet_init f fd) (K : FSh Γ cS) (h_look_text : Fn Γ "look_text" 2 (spLookText cT)) (h_look_width : Fn Γ "look_width" 1 (spLookWidth cZ)) (gH : GlV Γ "MOST_HEIGHT" (.int 100)) (xZ : ExK Γ "BadSize" cZ) : OkD Γ 3 f fd ["self", "text", "width", "height"] (spSInit cS cT cZ) := by
  refine okD F sc_Sheet_init nm_Sheet_init (by decide +kernel) (fun ds S Q E h => by cases h; rfl) (fun X B ds Q E G h => ?_)
  have Gg := G.g
  cases h with
  | @mk p t w h _ _ _ hS hl q e1 e2 =>
    show wSs Γ X B _ [.val (.ref p), .val (.str t), .val (.int w), .val (.int h)] B.S _
    ktf_call "go"
    · intro ht
      ktf_call "go"
      · intro hw1 hw2
        ktf_call "go"
        refine ⟨fun hz => ?_, fun hz => ?_⟩
        · ktf_call ("bz", hz)
          ktf_call "go"
          exact e2 ht (by omega)
        · ktf_call ("bz", hz)
          obtain ⟨w, rfl⟩ : ∃ n : Nat, w = (n : Int) := ⟨w.toNat, by omega⟩
          obtain ⟨h, rfl⟩ : ∃ n : Nat, h = (n : Int) := ⟨h.toNat, by omega⟩
          refine wSs_nil (wSs_cons (sFldW Gg ?_))
          ktf_call "go"
          refine ⟨_, _, _, rfl, hS, K.now, (show (0 : Nat) < 1000 by decide), wSs_cons (sFldW Gg ?_)⟩
          ktf_call "go"
          refine ⟨_, _, _, rfl, put_same, K.width, (show (1 : Nat) < 1000 by decide), put2S (wSs_cons (sFldW Gg ?_))⟩
          ktf_call "go"
          refine ⟨_, _, _, rfl, put_same, K.height, (show (2 : Nat) < 1000 by decide), put2S (wSs_cons (sFldW Gg ?_))⟩
          ktf_call "go"
          refine ⟨_, _, _, rfl, put_same, K.caret, (show (3 : Nat) < 1000 by decide), put2S (wSs_cons (sFldW Gg ?_))⟩
          ktf_call "go"
          refine ⟨_, _, _, rfl, put_same, K.back, (show (4 : Nat) < 1000 by decide), put2S (wSs_cons (sFldW Gg ?_))⟩
          ktf_call "go"
          refine ⟨_, _, _, rfl, put_same, K.anchor, (show (5 : Nat) < 1000 by decide), put2S (wSs_cons (sFldW Gg ?_))⟩
          ktf_call "go"
          refine ⟨_, _, _, rfl, put_same, K.wish, (show (6 : Nat) < 1000 by decide), put2S (wSs_cons (sFldW Gg ?_))⟩
          ktf_call "go"
          refine ⟨_, _, _, rfl, put_same, K.first, (show (7 : Nat) < 1000 by decide), put2S (wSs_cons (sFldW Gg (wE_dnew fun d hd => ?_)))⟩
          have hdp : d ≠ p := fun z => by
            rw [z, put_same] at hd
            cases hd
          ktf_call "go"
          refine ⟨p, cS, _, rfl, (put_ne hdp.symm).trans put_same, K.marked, (show (8 : Nat) < 1000 by decide), ?_⟩
          rw [put_comm hdp.symm, put_put]
          ktf_call "go"
          have hd2 : B.S d = none := by rw [put_ne hdp] at hd; exact hd
          exact q ht hw1 hw2 hz.1 hz.2 d hd2
      · intro hw
        exact e2 ht (by omega)
    · exact e1
inductive spSText (cS : Addr) : FnS
  | mk {p d : Addr} {s : Sh} {S : Sto} {Q : D → Sto → Prop} {E : Addr → Sto → Prop} (hS : S p = some (insS cS s d)) (q : Q (.str s.now) S) : spSText cS [.ref p] S Q E
theorem ok_sheet_text {cS : Addr} (F : FnM Γ "text" "Sheet.text" s_Sheet_text f fd) (K : FSh Γ cS) : OkD Γ 1 f fd ["self"] (spSText cS) := by
  refine okD F sc_Sheet_text nm_Sheet_text (by decide +kernel) (fun ds S Q E h => by cases h; rfl) (fun X B ds Q E G h => ?_)
  have Gg := G.g
  cases h with
  | @mk p d s _ _ _ hS q =>
    show wSs Γ X B _ [.val (.ref p)] B.S _
    ktf_call "go"
    exact q
inductive spSRows (cS cR : Addr) : FnS
  | mk {p d : Addr} {s : Sh} {S : Sto} {Q : D → Sto → Prop} {E : Addr → Sto → Prop} (hS : S p = some (insS cS s d)) (hl : s.now.length ≤ 50000) (hw : 2 ≤ s.width) (q : Q (.lst (s.R.map (rowO cR))) S) : spSRows cS cR [.ref p] S Q E
theorem ok_sheet_rows {cS cR : Addr} (F : FnM Γ "rows" "Sheet.rows" s_Sheet_rows f fd) (K : FSh Γ cS) (h_rows_of : Fn Γ "rows_of" 5 (spRowsOf cR)) : OkD Γ 6 f fd ["self"] (spSRows cS cR) := by
  refine okD F sc_Sheet_rows nm_Sheet_rows (by decide +kernel) (fun ds S Q E h => by cases h; rfl) (fun X B ds Q E G h => ?_)
  have Gg := G.g
  cases h with
  | @mk p d s _ _ _ hS hl hw q =>
    show wSs Γ X B _ [.val (.ref p)] B.S _
    ktf_call "go"
    exact spRowsOf.mk hl hw q
local macro_rules | `(tactic| ktf_call "C") => `(tactic| first | refine spSRows.mk (by ktf_call "St") (by ktf_call "side") (by ktf_call "side") ?_ | refine spRowAt.mk (by assumption) (by ktf_call "side") ?_ | refine spColumn.mk (by ktf_call "side") (by ktf_call "side") (by ktf_call "side") ?_ | refine spSoftEnd.mk (by with_reducible assumption) ?_)
theorem row_in {s : Sh} (ok : s.Ok) : (rowD0 s.R s.row).1 ≤ s.caret ∧ s.caret ≤ (rowD0 s.R s.row).2.1 ∧ (rowD0 s.R s.row).2.1 ≤ s.now.length := by
  have h := rowAt_in (rows_ch ok.w2 s.now) s.back (Nat.zero_le _) ok.car
  exact ⟨h.1, h.2, (rowD0_in ok.w2 ok.row_lt).2⟩
inductive spSAt (cS : Addr) : FnS
  | mk {p d : Addr} {s : Sh} {S : Sto} {Q : D → Sto → Prop} {E : Addr → Sto → Prop} (hS : S p = some (insS cS s d)) (ok : s.Ok) (q : Q (.tup [.int (s.caret : Nat), .int (s.row : Nat), .int (s.col : Nat)]) S) : spSAt cS [.ref p] S Q E
theorem ok_sheet_at {cS cR : Addr} (F : FnM Γ "at" "Sheet.at" s_Sheet_at f fd) (K : FSh Γ cS) (h_rows : Mt Γ cS "rows" 6 (spSRows cS cR)) (h_row_at : Fn Γ "row_at" 1 (spRowAt cR)) (h_column : Fn Γ "column_of" 2 (spColumn cR)) : OkD Γ 7 f fd ["self"] (spSAt cS) := by
  refine okD F sc_Sheet_at nm_Sheet_at (by decide +kernel) (fun ds S Q E h => by cases h; rfl) (fun X B ds Q E G h => ?_)
  have Gg := G.g
  cases h with
  | @mk p d s _ _ _ hS ok q =>
    show wSs Γ X B _ [.val (.ref p), .no, .no] B.S _
    have hl := ok.len
    have hw := ok.w2
    have hrl := ok.rlen
    have hne := ok.rne
    obtain ⟨hr1, hr2, hr3⟩ := row_in ok
    have hrow := ok.row_lt
    ktf_call "go"
    refine subSR (subLn Gg (by rw [List.length_map]; exact hrow)) ?_
    rw [rows_at (show rowAt s.caret s.back s.R < s.R.length from hrow)]
    ktf_call "go"
    refine spColumn.mk (by omega) hr1 (by omega) ?_
    ktf_call "go"
    exact q
end Hd

end

section
namespace Hd
open PySem PySem.Spec PyProof.Rows L2 CR
local macro_rules | `(tactic| ktf_call "At") => `(tactic| with_reducible (repeat (first | exact CR.At.hd | apply CR.At.tl)))
local macro_rules | `(tactic| ktf_call "Up") => `(tactic| with_reducible (repeat (first | exact CR.UpF.hd | apply CR.UpF.tl)))
local macro_rules | `(tactic| ktf_call "Kd") => `(tactic| with_reducible (repeat (first | exact CR.Kd.hd | apply CR.Kd.tl)))
local macro_rules | `(tactic| ktf_call "KdV") => `(tactic| first | (refine Or.inl ?_; ktf_call "Kd"; done) | (refine Or.inr (Or.inl ?_); ktf_call "Kd"; done) | (refine Or.inr (Or.inr ?_); ktf_call "Kd"; done))
local macro_rules | `(tactic| ktf_call "KdL") => `(tactic| first | (refine Or.inl ?_; ktf_call "Kd"; done) | (refine Or.inr ?_; ktf_call "Kd"; done))
local macro_rules | `(tactic| ktf_call "side") => `(tactic| first | with_reducible assumption | omega | (simp only [List.length_nil, List.length_cons, List.length_append, List.length_map, List.length_take, List.length_drop]; omega) | decide)
local macro_rules | `(tactic| ktf_call "St") => `(tactic| first | with_reducible assumption | with_reducible exact CR.put_same)
local macro_rules | `(tactic| ktf_call "C") => `(tactic| fail)
local macro_rules | `(tactic| ktf_call "O") => `(tactic| fail)
local macro_rules | `(tactic| ktf_call "E") => `(tactic| first
  | ((with_reducible show CR.wE _ _ _ (.Name _ _) _ _ _); refine CR.eN (by assumption) (by ktf_call "At") (by ktf_call "KdV") ?_)
  | refine CR.wE_int ?_
  | with_reducible refine CR.wE_sp ?_
  | with_reducible refine CR.wE_nl ?_
  | with_reducible refine CR.wE_em ?_
  | refine CR.wE_str ?_
  | refine CR.wE_bool ?_
  | refine CR.wE_none ?_
  | ((with_reducible show CR.wE _ _ _ (.Attribute (.Name _ _) _ _) _ _ _); refine Hd.eSelf (by assumption) (by with_reducible assumption) (by ktf_call "At") (by ktf_call "KdV") (by ktf_call "St") (by with_reducible constructor) ?_)
  | refine CR.wE_bin ?_
  | ((with_reducible show CR.wE _ _ _ (.Call (.Name _ _) _ _ _) _ _ _); refine CR.eCall (by assumption) (by with_reducible assumption) (by first | decide | omega) (by ktf_call "Kd") ?_)
  | (((with_reducible show CR.wE _ _ _ (.Call (.Name _ _) _ _ _) _ _ _); refine CR.eIsX (by assumption) (by ktf_call "Kd") (by with_reducible assumption) ?_))
  | ((with_reducible show CR.wE _ _ _ (.Call (.Name _ _) _ _ _) _ _ _); refine CR.eBltS (by assumption) (by with_reducible constructor) (by ktf_call "Kd") (by with_reducible assumption) ?_)
  | ((with_reducible show CR.wE _ _ _ (.Call (.Name _ _) _ _ _) _ _ _); refine CR.eBtyS (by assumption) (by with_reducible constructor) (by ktf_call "Kd") (by with_reducible assumption) ?_)
  | ((with_reducible show CR.wE _ _ _ (.Name _ _) _ _ _); refine CR.eGlob (by assumption) (by with_reducible assumption) (by ktf_call "Kd") ?_)
  | refine CR.wE_cmp ?_
  | refine CR.eChain ?_
  | refine CR.wE_slice ?_
  | refine CR.wE_subS ?_
  | refine CR.wE_tup ?_
  | refine CR.wE_lst ?_
  | refine CR.wE_neg ?_
  | refine CR.wE_if ?_
  | ((with_reducible show CR.wE _ _ _ (.Call (.Attribute _ _ _) _ _ _) _ _ _); refine CR.wE_meth0 (by assumption) (by with_reducible assumption) (by first | decide | omega) ?_)
  | ((with_reducible show CR.wE _ _ _ (.Call (.Attribute _ _ _) _ _ _) _ _ _); refine CR.wE_meth (by assumption) (by with_reducible assumption) (by first | decide | omega) ?_)
  | ((with_reducible show CR.wE _ _ _ (.Attribute _ _ _) _ _ _); refine CR.wE_fld (by assumption) ?_)
  | with_reducible refine CR.put2E ?_)
local macro_rules | `(tactic| ktf_call "T") => `(tactic| first
  | refine CR.wT_cmp ?_
  | refine CR.tChain ?_
  | refine CR.wT_not ?_
  | refine CR.wT_val (by assumption) ?_)
local macro_rules | `(tactic| ktf_call "S") => `(tactic| first
  | refine CR.wS_ret ?_
  | refine CR.wS_if ?_
  | ((with_reducible show CR.wS _ _ _ (.Assign [.Attribute _ _ _] _ _) _ _ _); refine Hd.sSelf (by assumption) (by with_reducible assumption) (by ktf_call "At") (by ktf_call "KdV") ?_)
  | ((with_reducible show CR.wS _ _ _ (.Assign [.Name _ _] (.List _ _) _) _ _ _); refine CR.sOwn (es := []) (by assumption) (by ktf_call "Up") (by ktf_call "KdL") ?_)
  | ((with_reducible show CR.wS _ _ _ (.Expr (.Call (.Attribute _ _ _) _ _ _) _) _ _ _); refine CR.sApp (by assumption) (by ktf_call "At") (by ktf_call "Up") (by ktf_call "KdV") ?_)
  | ((with_reducible show CR.wS _ _ _ (.Expr (.Call (.Attribute _ _ _) _ _ _) _) _ _ _); refine CR.sExt (by assumption) (by ktf_call "At") (by ktf_call "Up") (by ktf_call "KdV") ?_)
  | ((with_reducible show CR.wS _ _ _ (.Assign [.Name _ _] _ _) _ _ _); refine CR.sSet (by assumption) (by ktf_call "Up") (by ktf_call "KdL") ?_)
  | ((with_reducible show CR.wS _ _ _ (.Raise _ _ _) _ _ _); refine CR.sRaise (by assumption) (by with_reducible assumption) (by ktf_call "Kd") ?_)
  | refine CR.wS_expr ?_
  | refine CR.wS_pass ?_
  | refine CR.wS_retN ?_)
local macro_rules | `(tactic| ktf_call "SS") => `(tactic| first
  | with_reducible refine CR.put2S ?_
  | refine CR.wSs_cons ?_
  | refine CR.wSs_nil ?_)
local macro_rules | `(tactic| ktf_call "OB") => `(tactic| first
  | ((with_reducible show CR.BltS _ _ _ _ [.str _] _); with_reducible refine CR.bltSR (CR.lenS (by ktf_call "side")) ?_) | ((with_reducible show CR.BltS _ _ _ _ [.lst _] _); with_reducible refine CR.bltSR (CR.lenL (by assumption)) ?_) | ((with_reducible show CR.BltS _ _ _ _ [.tup _] _); with_reducible refine CR.bltSR (CR.lenT (by assumption)) ?_)
  | ((with_reducible show CR.BltS _ _ _ _ [.ref _] _); with_reducible refine CR.lenR (by with_reducible assumption) (by ktf_call "St") ?_)
  | with_reducible refine CR.bltSR (CR.min2N (by assumption)) ?_ | with_reducible refine CR.bltSR (CR.max2N (by assumption)) ?_
  | with_reducible refine CR.bltSR (CR.ordS) ?_ | with_reducible refine CR.bltSR (CR.absI) ?_ | with_reducible refine CR.bltSR (CR.max2 (by assumption)) ?_ | with_reducible refine CR.bltSR (CR.min2 (by assumption)) ?_
  | with_reducible refine CR.bltSR (CR.copyL (by assumption)) ?_
  | with_reducible refine CR.bltSR (CR.intI) ?_ | with_reducible refine CR.bltSR (CR.intB) ?_)
local macro_rules | `(tactic| ktf_call "OS") => `(tactic| first
  | ((with_reducible show CR.SubS _ _ _ (.str _) _ _); with_reducible refine CR.subSR (CR.subSn (by ktf_call "side") (by ktf_call "side")) ?_) | ((with_reducible show CR.SubS _ _ _ (.str _) _ _); with_reducible refine CR.subSR (CR.subSi (by ktf_call "side") (by ktf_call "side") (by ktf_call "side")) ?_) | ((with_reducible show CR.SubS _ _ _ (.lst _) _ _); with_reducible refine CR.subSR (CR.subLn (by assumption) (by ktf_call "side")) ?_) | ((with_reducible show CR.SubS _ _ _ (.tup _) _ _); with_reducible refine CR.subSR (CR.subTn (by assumption) (by ktf_call "side")) ?_))
local macro_rules | `(tactic| ktf_call "OA") => `(tactic| first
  | with_reducible refine CR.opI (CR.addI) ?_ | with_reducible refine CR.opI (CR.subI) ?_ | ((with_reducible show ∃ z, CR.BinR _ _ _ (.str _) _ z ∧ _); with_reducible refine CR.opI (CR.addS (by ktf_call "side")) ?_)
  | ((with_reducible show ∃ z, CR.BinR _ _ .Mult _ _ z ∧ _); refine CR.opI (CR.mulA (by ktf_call "side") (by ktf_call "side")) ?_) | ((with_reducible show ∃ z, CR.BinR _ _ .FloorDiv _ _ z ∧ _); refine CR.opI (CR.divA (by ktf_call "side") (by ktf_call "side")) ?_) | ((with_reducible show ∃ z, CR.BinR _ _ .Mod _ _ z ∧ _); refine CR.opI (CR.modI (by ktf_call "side")) ?_))
local macro_rules | `(tactic| ktf_call "OC") => `(tactic| first
  | with_reducible refine CR.opI (CR.ltI) ?_ | with_reducible refine CR.opI (CR.leI) ?_ | with_reducible refine CR.opI (CR.gtI) ?_ | with_reducible refine CR.opI (CR.geI) ?_ | with_reducible refine CR.opI (CR.eqI) ?_ | with_reducible refine CR.opI (CR.neI) ?_
  | with_reducible refine CR.opI (CR.eqS) ?_ | with_reducible refine CR.opI (CR.neS) ?_ | with_reducible refine CR.opI (CR.isN) ?_ | with_reducible refine CR.opI (CR.notN) ?_ | with_reducible refine CR.opI (CR.inC) ?_ | with_reducible refine CR.opI (CR.leS) ?_)
local macro_rules | `(tactic| ktf_call "OL") => `(tactic| first
  | ((with_reducible show ∃ z, CR.SlcR _ _ (.str _) (some _) (some _) z ∧ _); with_reducible refine CR.opI (CR.slcN (by ktf_call "side") (by ktf_call "side") (by ktf_call "side")) ?_)
  | ((with_reducible show ∃ z, CR.SlcR _ _ (.str _) none _ z ∧ _); with_reducible refine CR.opI (CR.slcTo (by ktf_call "side") (by ktf_call "side")) ?_) | ((with_reducible show ∃ z, CR.SlcR _ _ (.str _) _ none z ∧ _); with_reducible refine CR.opI (CR.slcFrom (by ktf_call "side") (by ktf_call "side")) ?_) | ((with_reducible show ∃ z, CR.SlcR _ _ (.str _) _ _ z ∧ _); with_reducible refine CR.opI (CR.slcS (by ktf_call "side")) ?_) | with_reducible refine CR.opI (CR.slcL (by assumption)) ?_)
local macro_rules | `(tactic| ktf_call "AA") => `(tactic| first | refine CR.wA_nil ?_ | refine CR.wA_cons ?_ | with_reducible refine CR.put2A ?_)
local macro_rules | `(tactic| ktf_call "M") => `(tactic| first
  | ((with_reducible show CR.Recv _ _ _ _ ∧ _); with_reducible refine And.intro (Hd.recvS (by ktf_call "St") (by with_unfolding_all rfl)) ?_)
  | ((with_reducible show ∃ s d s', _ ∧ Hd.ShW s _ _ s' ∧ _); with_reducible refine Hd.shwO (by ktf_call "St") (by with_reducible constructor) ?_)
  | with_reducible refine CR.fldO (by with_reducible assumption) (by with_unfolding_all rfl) ?_
  | ((with_reducible show ∃ C' fs' d', ((∃ a, CR.D.ref _ = CR.D.ref a ∧ _) ∨ _) ∧ _); with_reducible refine CR.fldR (by ktf_call "St") (by with_reducible assumption) (by with_unfolding_all rfl) ?_)
  | with_reducible refine ⟨_, CR.TruD.bl _, ?_⟩
  | ((with_reducible show @LE.le _ _ _ _ ∧ _); with_reducible refine CR.and_le (by ktf_call "side") ?_) | ((with_reducible show @LT.lt _ _ _ _ ∧ _); with_reducible refine CR.and_lt (by ktf_call "side") ?_)
  | ((with_reducible apply CR.pureI); focus (intro Q q; ktf_call "go"; exact q))
  | with_reducible refine ⟨_, _, _, _, rfl, by assumption, by assumption, ?_⟩
  | refine CR.wP_none ?_ | (refine CR.wP_some ?_) | refine CR.opI rfl ?_)
local macro_rules | `(tactic| ktf_call "one") => `(tactic| first
  | (refine CR.isE ?_; ktf_call "E")
  | (refine CR.isA ?_; ktf_call "AA")
  | (refine CR.isBlt ?_; ktf_call "OB")
  | (refine CR.isSub ?_; ktf_call "OS")
  | (refine CR.isBin ?_; ktf_call "OA")
  | (refine CR.isCmp ?_; first | ktf_call "O" | ktf_call "OC")
  | (refine CR.isSlc ?_; ktf_call "OL"))
local macro_rules | `(tactic| ktf_call "goE") => `(tactic| repeat (first | ktf_call "one" | ktf_call "C" | ktf_call "M"))
local macro_rules | `(tactic| ktf_call "go") => `(tactic| repeat (first | (refine CR.isSs ?_; ktf_call "SS") | (refine CR.isS ?_; first | with_reducible refine CR.put2s ?_ | ktf_call "S") | ktf_call "one" | (refine CR.isT ?_; first | with_reducible refine CR.put2T ?_ | ktf_call "T") | ktf_call "C" | ktf_call "M"))
local macro_rules | `(tactic| ktf_call ("bz", $h:ident)) => `(tactic| simp only [Bool.and_eq_true, Bool.or_eq_true, Bool.not_eq_true', Bool.not_eq_false', decide_eq_true_eq, decide_eq_false_iff_not, Bool.and_eq_false_iff, Bool.or_eq_false_iff, Int.ofNat_lt, Int.ofNat_le, Int.natCast_inj, CR.s_blank, CR.s_nl, CR.s_empty, CR.str_one] at $h:ident)

variable {Γ : Wd} {k : Nat} {f : Addr} {fd : FuncData}
local macro_rules | `(tactic| ktf_call "C") => `(tactic| first | refine spSRows.mk (by ktf_call "St") (by ktf_call "side") (by ktf_call "side") ?_ | refine spRowAt.mk (by assumption) (by ktf_call "side") ?_)
inductive spSChosen (cS : Addr) : FnS
  | mk {p d : Addr} {s : Sh} {S : Sto} {Q : D → Sto → Prop} {E : Addr → Sto → Prop} (hS : S p = some (insS cS s d)) (q : Q (.tup [.int (s.lo : Nat), .int (s.hi : Nat)]) S) : spSChosen cS [.ref p] S Q E
theorem ok_sheet_chosen {cS : Addr} (F : FnM Γ "chosen" "Sheet.chosen" s_Sheet_chosen f fd) (K : FSh Γ cS) (b_min : Γ.mg "min" = none) (b_max : Γ.mg "max" = none) : OkD Γ 1 f fd ["self"] (spSChosen cS) := by
  refine okD F sc_Sheet_chosen nm_Sheet_chosen (by decide +kernel) (fun ds S Q E h => by cases h; rfl) (fun X B ds Q E G h => ?_)
  have Gg := G.g
  cases h with
  | @mk p d s _ _ _ hS q =>
    show wSs Γ X B _ [.val (.ref p)] B.S _
    ktf_call "go"
    exact q
inductive spSChText (cS : Addr) : FnS
  | mk {p d : Addr} {s : Sh} {S : Sto} {Q : D → Sto → Prop} {E : Addr → Sto → Prop} (hS : S p = some (insS cS s d)) (ok : s.Ok) (q : Q (.str (seg s.now s.lo s.hi)) S) : spSChText cS [.ref p] S Q E
theorem lohi {s : Sh} (ok : s.Ok) : s.lo ≤ s.hi ∧ s.hi ≤ s.now.length := by
  have := ok.car
  have := ok.anc
  unfold Sh.lo Sh.hi
  omega
/-- first, last = self.chosen() -/
theorem two_names {N : List Str} {nm : List (Str × NameKind)} {E : EK} {X : Cx} {B : Bs} {ρ : List Sl} {x y : Str} {a b : D} {f1 f2 : Sl → List Sl} {i j : Nat} {px py pt : Pos} {kk : Nat} (G : Gd Γ X N nm k B E) (hi : N[i]? = some x) (hj : N[j]? = some y) (hu1 : UpF N x ρ f1) (hu2 : UpF N y (f1 (.val a)) f2) (hx : Kd nm x .local) (hy : Kd nm y .local) :
    wG Γ X B.H (.Tuple [.Name x px, .Name y py] kk pt) [i, j] (.tup [a, b]) ρ (f2 (.val b)) := by
  have m1 : ∀ i', N[i']? = some x → ∀ jj, jj ∉ [i, j] → i' ≠ jj := fun i' h jj hjj z => by
    have := nodup_ix G.nd hi h
    exact hjj (by rw [← z, ← this]; simp)
  have m2 : ∀ i', N[i']? = some y → ∀ jj, jj ∉ [i, j] → i' ≠ jj := fun i' h jj hjj z => by
    have := nodup_ix G.nd hj h
    exact hjj (by rw [← z, ← this]; simp)
  exact wG_tup G (wGs_cons (gN G hu1 hx m1) (wGs_cons (gN G hu2 hy m2) wGs_nil)) rfl
inductive spSScroll (cS : Addr) : FnS
  | mk {p d : Addr} {s : Sh} {S : Sto} {Q : D → Sto → Prop} {E : Addr → Sto → Prop} (hS : S p = some (insS cS s d)) (ok : s.Ok) (q : Q .non (put S p (insS cS s.scroll d))) : spSScroll cS [.ref p] S Q E
theorem ok_sheet_scroll {cS cR : Addr} (F : FnM Γ "scroll" "Sheet.scroll" s_Sheet_scroll f fd) (K : FSh Γ cS) (h_rows : Mt Γ cS "rows" 6 (spSRows cS cR)) (h_row_at : Fn Γ "row_at" 1 (spRowAt cR)) (b_min : Γ.mg "min" = none) (b_max : Γ.mg "max" = none) (b_len : Γ.mg "len" = none) : OkD Γ 7 f fd ["self"] (spSScroll cS) := by
  refine okD F sc_Sheet_scroll nm_Sheet_scroll (by decide +kernel) (fun ds S Q E h => by cases h; rfl) (fun X B ds Q E G h => ?_)
  have Gg := G.g
  cases h with
  | @mk p d s _ _ _ hS ok q =>
    have hl := ok.len
    have hw := ok.w2
    have hrl := ok.rlen
    have hne := ok.rne
    have hrow := ok.row_lt
    have hh := ok.h1
    show wSs Γ X B _ [.val (.ref p), .no, .no] B.S _
    ktf_call "go"
    rw [List.length_map, show max (0 : Int) (min ((s.first : Nat) : Int) (((s.R.length : Nat) : Int) - 1)) = ((min s.first (s.R.length - 1) : Nat) : Int) by omega]
    ktf_call "go"
    have hrw : rowAt s.caret s.back s.R = s.row := rfl
    rw [hrw]
    have fin : ∀ v, firstOf s.first s.R.length s.row s.height = v → Q .non (put B.S p (insS cS { s with first := v } d)) := fun v e => by
      subst e
      exact q
    refine ⟨fun hz => ?_, fun hz => ?_⟩
    · ktf_call ("bz", hz)
      ktf_call "go"
      refine ⟨fun hy => ?_, fun hy => ?_⟩
      · ktf_call ("bz", hy)
        exact absurd hy (by omega)
      · ktf_call ("bz", hy)
        ktf_call "go"
        try simp only [put_put]
        refine fin _ ?_
        unfold firstOf
        dsimp only
        split <;> split <;> omega
    · ktf_call ("bz", hz)
      ktf_call "go"
      refine ⟨fun hy => ?_, fun hy => ?_⟩
      · ktf_call ("bz", hy)
        ktf_call "go"
        rw [show ((s.row : Nat) : Int) - ((s.height : Nat) : Int) + 1 = ((s.row + 1 - s.height : Nat) : Int) by omega]
        ktf_call "go"
        try simp only [put_put]
        refine fin _ ?_
        unfold firstOf
        dsimp only
        split <;> split <;> omega
      · ktf_call ("bz", hy)
        ktf_call "go"
        try simp only [put_put]
        refine fin _ ?_
        unfold firstOf
        dsimp only
        split <;> split <;> omega
inductive spSPut (cS : Addr) : FnS
  | mk {p d : Addr} {s : Sh} {o : Nat} {b ch : Bool} {S : Sto} {Q : D → Sto → Prop} {E : Addr → Sto → Prop} (hS : S p = some (insS cS s d)) (ok : (s.put0 o b ch).Ok) (q : Q .non (put S p (insS cS (s.put o b ch) d))) : spSPut cS [.ref p, .int (o : Nat), .bl b, .bl ch] S Q E
theorem spPut' {cS p d : Addr} {s : Sh} {o : Nat} {b ch : Bool} {S : Sto} {Q : D → Sto → Prop} {E : Addr → Sto → Prop} (hS : S p = some (insS cS s d)) (ok : s.Ok) (ho : o ≤ s.now.length) (q : Q .non (put S p (insS cS (s.put o b ch) d))) : spSPut cS [.ref p, .int (o : Nat), .bl b, .bl ch] S Q E :=
  .mk hS (ok.put0 b ch ho) q
theorem ok_sheet_put {cS cR : Addr} (F : FnM Γ "put" "Sheet.put" s_Sheet_put f fd) (K : FSh Γ cS) (h_rows : Mt Γ cS "rows" 6 (spSRows cS cR)) (h_row_at : Fn Γ "row_at" 1 (spRowAt cR)) (h_soft : Fn Γ "is_soft_end" 1 (spSoftEnd cR)) (h_scroll : Mt Γ cS "scroll" 7 (spSScroll cS)) : OkD Γ 8 f fd ["self", "offset", "is_back", "is_choosing"] (spSPut cS) := by
  refine okD F sc_Sheet_put nm_Sheet_put (by decide +kernel) (fun ds S Q E h => by cases h; rfl) (fun X B ds Q E G h => ?_)
  have Gg := G.g
  cases h with
  | @mk p d s o b ch _ _ _ hS okp q =>
    have hl : s.now.length ≤ 2000 := okp.len
    have hw : 2 ≤ s.width := okp.w2
    have hrl : 0 < s.R.length ∧ s.R.length ≤ 2001 := okp.rlen
    have hne : s.R ≠ [] := okp.rne
    have hk : rowAt o true s.R < s.R.length := rowAt_lt _ _ hne
    show wSs Γ X B _ [.val (.ref p), .val (.int o), .val (.bl b), .val (.bl ch), .no, .no] B.S _
    ktf_call "go"
    refine spRowAt.mk (R := s.R) hne (by omega) ?_
    ktf_call "go"
    refine wE_p (pE_and (y := b) (z := softEnd s.R (rowAt o true s.R) o) (fun Q q => ?g1) fun _ => pE_one fun Q q => ?g2) ?g3
    case g1 =>
      ktf_call "go"
      exact q
    case g2 =>
      ktf_call "go"
      exact spSoftEnd.mk hk q
    case g3 =>
      ktf_call "go"
      refine ⟨fun hz => ?_, fun hz => ?_⟩
      · have hc : ch = false := by simpa using hz
        subst hc
        ktf_call "go"
        refine spSScroll.mk put_same okp ?_
        ktf_call "go"
        simp only [put_put]
        exact q
      · have hc : ch = true := by simpa using hz
        subst hc
        ktf_call "go"
        refine spSScroll.mk put_same okp ?_
        ktf_call "go"
        simp only [put_put]
        exact q
local macro_rules | `(tactic| ktf_call "C") => `(tactic| refine spLookOffset.mk (by ktf_call "side") ?_ ?_)
inductive spSGo (cS cP : Addr) : FnS
  | mk {p d : Addr} {s : Sh} {o : Int} {S : Sto} {Q : D → Sto → Prop} {E : Addr → Sto → Prop} (hS : S p = some (insS cS s d)) (ok : s.Ok) (q : ∀ n : Nat, o = n → n ≤ s.now.length → Q .non (put S p (insS cS (s.go n) d))) (e : ¬ (0 ≤ o ∧ o ≤ s.now.length) → E cP S) : spSGo cS cP [.ref p, .int o] S Q E
theorem ok_sheet_go {cS cP : Addr} (F : FnM Γ "go" "Sheet.go" s_Sheet_go f fd) (K : FSh Γ cS) (h_put : Mt Γ cS "put" 8 (spSPut cS)) (h_look : Fn Γ "look_offset" 1 (spLookOffset cP)) : OkD Γ 9 f fd ["self", "offset"] (spSGo cS cP) := by
  refine okD F sc_Sheet_go nm_Sheet_go (by decide +kernel) (fun ds S Q E h => by cases h; rfl) (fun X B ds Q E G h => ?_)
  have Gg := G.g
  cases h with
  | @mk p d s o _ _ _ hS ok q e =>
    have hl := ok.len
    show wSs Γ X B _ [.val (.ref p), .val (.int o)] B.S _
    ktf_call "go"
    · intro h1 h2
      obtain ⟨n, rfl⟩ := Int.eq_ofNat_of_zero_le h1
      ktf_call "go"
      refine spPut' put_same ok.nowish (by show n ≤ s.now.length; omega) ?_
      ktf_call "go"
      simp only [put_put]
      exact q n rfl (by omega)
    · exact e
inductive spSChoose (cS cP : Addr) : FnS
  | mk {p d : Addr} {s : Sh} {a c : Int} {S : Sto} {Q : D → Sto → Prop} {E : Addr → Sto → Prop} (hS : S p = some (insS cS s d)) (ok : s.Ok) (q : ∀ m n : Nat, a = m → c = n → m ≤ s.now.length → n ≤ s.now.length → Q .non (put S p (insS cS (s.choose m n) d)))
      (e : ¬ (0 ≤ a ∧ a ≤ s.now.length ∧ 0 ≤ c ∧ c ≤ s.now.length) → E cP S) : spSChoose cS cP [.ref p, .int a, .int c] S Q E
end Hd

end

section
namespace Hd
open PySem PySem.Spec PyProof.Rows L2 CR
local macro_rules | `(tactic| ktf_call "At") => `(tactic| with_reducible (repeat (first | exact CR.At.hd | apply CR.At.tl)))
local macro_rules | `(tactic| ktf_call "Up") => `(tactic| with_reducible (repeat (first | exact CR.UpF.hd | apply CR.UpF.tl)))
local macro_rules | `(tactic| ktf_call "Kd") => `(tactic| with_reducible (repeat (first | exact CR.Kd.hd | apply CR.Kd.tl)))
local macro_rules | `(tactic| ktf_call "KdV") => `(tactic| first | (refine Or.inl ?_; ktf_call "Kd"; done) | (refine Or.inr (Or.inl ?_); ktf_call "Kd"; done) | (refine Or.inr (Or.inr ?_); ktf_call "Kd"; done))
local macro_rules | `(tactic| ktf_call "KdL") => `(tactic| first | (refine Or.inl ?_; ktf_call "Kd"; done) | (refine Or.inr ?_; ktf_call "Kd"; done))
local macro_rules | `(tactic| ktf_call "side") => `(tactic| first | with_reducible assumption | omega | (simp only [List.length_nil, List.length_cons, List.length_append, List.length_map, List.length_take, List.length_drop]; omega) | decide)
local macro_rules | `(tactic| ktf_call "St") => `(tactic| first | with_reducible assumption | with_reducible exact CR.put_same)
local macro_rules | `(tactic| ktf_call "C") => `(tactic| fail)
local macro_rules | `(tactic| ktf_call "O") => `(tactic| fail)
local macro_rules | `(tactic| ktf_call "E") => `(tactic| first
  | ((with_reducible show CR.wE _ _ _ (.Name _ _) _ _ _); refine CR.eN (by assumption) (by ktf_call "At") (by ktf_call "KdV") ?_)
  | refine CR.wE_int ?_
  | with_reducible refine CR.wE_sp ?_
  | with_reducible refine CR.wE_nl ?_
  | with_reducible refine CR.wE_em ?_
  | refine CR.wE_str ?_
  | refine CR.wE_bool ?_
  | refine CR.wE_none ?_
  | ((with_reducible show CR.wE _ _ _ (.Attribute (.Name _ _) _ _) _ _ _); refine Hd.eSelf (by assumption) (by with_reducible assumption) (by ktf_call "At") (by ktf_call "KdV") (by ktf_call "St") (by with_reducible constructor) ?_)
  | refine CR.wE_bin ?_
  | ((with_reducible show CR.wE _ _ _ (.Call (.Name _ _) _ _ _) _ _ _); refine CR.eCall (by assumption) (by with_reducible assumption) (by first | decide | omega) (by ktf_call "Kd") ?_)
  | (((with_reducible show CR.wE _ _ _ (.Call (.Name _ _) _ _ _) _ _ _); refine CR.eIsX (by assumption) (by ktf_call "Kd") (by with_reducible assumption) ?_))
  | ((with_reducible show CR.wE _ _ _ (.Call (.Name _ _) _ _ _) _ _ _); refine CR.eBltS (by assumption) (by with_reducible constructor) (by ktf_call "Kd") (by with_reducible assumption) ?_)
  | ((with_reducible show CR.wE _ _ _ (.Call (.Name _ _) _ _ _) _ _ _); refine CR.eBtyS (by assumption) (by with_reducible constructor) (by ktf_call "Kd") (by with_reducible assumption) ?_)
  | ((with_reducible show CR.wE _ _ _ (.Name _ _) _ _ _); refine CR.eGlob (by assumption) (by with_reducible assumption) (by ktf_call "Kd") ?_)
  | refine CR.wE_cmp ?_
  | refine CR.eChain ?_
  | refine CR.wE_slice ?_
  | refine CR.wE_subS ?_
  | refine CR.wE_tup ?_
  | refine CR.wE_lst ?_
  | refine CR.wE_neg ?_
  | refine CR.wE_if ?_
  | ((with_reducible show CR.wE _ _ _ (.Call (.Attribute _ _ _) _ _ _) _ _ _); refine CR.wE_meth0 (by assumption) (by with_reducible assumption) (by first | decide | omega) ?_)
  | ((with_reducible show CR.wE _ _ _ (.Call (.Attribute _ _ _) _ _ _) _ _ _); refine CR.wE_meth (by assumption) (by with_reducible assumption) (by first | decide | omega) ?_)
  | ((with_reducible show CR.wE _ _ _ (.Attribute _ _ _) _ _ _); refine CR.wE_fld (by assumption) ?_)
  | with_reducible refine CR.put2E ?_)
local macro_rules | `(tactic| ktf_call "T") => `(tactic| first
  | refine CR.wT_cmp ?_
  | refine CR.tChain ?_
  | refine CR.wT_not ?_
  | refine CR.wT_val (by assumption) ?_)
local macro_rules | `(tactic| ktf_call "S") => `(tactic| first
  | refine CR.wS_ret ?_
  | refine CR.wS_if ?_
  | ((with_reducible show CR.wS _ _ _ (.Assign [.Attribute _ _ _] _ _) _ _ _); refine Hd.sSelf (by assumption) (by with_reducible assumption) (by ktf_call "At") (by ktf_call "KdV") ?_)
  | ((with_reducible show CR.wS _ _ _ (.Assign [.Name _ _] (.List _ _) _) _ _ _); refine CR.sOwn (es := []) (by assumption) (by ktf_call "Up") (by ktf_call "KdL") ?_)
  | ((with_reducible show CR.wS _ _ _ (.Expr (.Call (.Attribute _ _ _) _ _ _) _) _ _ _); refine CR.sApp (by assumption) (by ktf_call "At") (by ktf_call "Up") (by ktf_call "KdV") ?_)
  | ((with_reducible show CR.wS _ _ _ (.Expr (.Call (.Attribute _ _ _) _ _ _) _) _ _ _); refine CR.sExt (by assumption) (by ktf_call "At") (by ktf_call "Up") (by ktf_call "KdV") ?_)
  | ((with_reducible show CR.wS _ _ _ (.Assign [.Name _ _] _ _) _ _ _); refine CR.sSet (by assumption) (by ktf_call "Up") (by ktf_call "KdL") ?_)
  | ((with_reducible show CR.wS _ _ _ (.Raise _ _ _) _ _ _); refine CR.sRaise (by assumption) (by with_reducible assumption) (by ktf_call "Kd") ?_)
  | refine CR.wS_expr ?_
  | refine CR.wS_pass ?_
  | refine CR.wS_retN ?_)
local macro_rules | `(tactic| ktf_call "SS") => `(tactic| first
  | with_reducible refine CR.put2S ?_
  | refine CR.wSs_cons ?_
  | refine CR.wSs_nil ?_)
local macro_rules | `(tactic| ktf_call "OB") => `(tactic| first
  | ((with_reducible show CR.BltS _ _ _ _ [.str _] _); with_reducible refine CR.bltSR (CR.lenS (by ktf_call "side")) ?_) | ((with_reducible show CR.BltS _ _ _ _ [.lst _] _); with_reducible refine CR.bltSR (CR.lenL (by assumption)) ?_) | ((with_reducible show CR.BltS _ _ _ _ [.tup _] _); with_reducible refine CR.bltSR (CR.lenT (by assumption)) ?_)
  | ((with_reducible show CR.BltS _ _ _ _ [.ref _] _); with_reducible refine CR.lenR (by with_reducible assumption) (by ktf_call "St") ?_)
  | with_reducible refine CR.bltSR (CR.min2N (by assumption)) ?_ | with_reducible refine CR.bltSR (CR.max2N (by assumption)) ?_
  | with_reducible refine CR.bltSR (CR.ordS) ?_ | with_reducible refine CR.bltSR (CR.absI) ?_ | with_reducible refine CR.bltSR (CR.max2 (by assumption)) ?_ | with_reducible refine CR.bltSR (CR.min2 (by assumption)) ?_
  | with_reducible refine CR.bltSR (CR.copyL (by assumption)) ?_
  | with_reducible refine CR.bltSR (CR.intI) ?_ | with_reducible refine CR.bltSR (CR.intB) ?_)
local macro_rules | `(tactic| ktf_call "OS") => `(tactic| first
  | ((with_reducible show CR.SubS _ _ _ (.str _) _ _); with_reducible refine CR.subSR (CR.subSn (by ktf_call "side") (by ktf_call "side")) ?_) | ((with_reducible show CR.SubS _ _ _ (.str _) _ _); with_reducible refine CR.subSR (CR.subSi (by ktf_call "side") (by ktf_call "side") (by ktf_call "side")) ?_) | ((with_reducible show CR.SubS _ _ _ (.lst _) _ _); with_reducible refine CR.subSR (CR.subLn (by assumption) (by ktf_call "side")) ?_) | ((with_reducible show CR.SubS _ _ _ (.tup _) _ _); with_reducible refine CR.subSR (CR.subTn (by assumption) (by ktf_call "side")) ?_))
local macro_rules | `(tactic| ktf_call "OA") => `(tactic| first
  | with_reducible refine CR.opI (CR.addI) ?_ | with_reducible refine CR.opI (CR.subI) ?_ | ((with_reducible show ∃ z, CR.BinR _ _ _ (.str _) _ z ∧ _); with_reducible refine CR.opI (CR.addS (by ktf_call "side")) ?_)
  | ((with_reducible show ∃ z, CR.BinR _ _ .Mult _ _ z ∧ _); refine CR.opI (CR.mulA (by ktf_call "side") (by ktf_call "side")) ?_) | ((with_reducible show ∃ z, CR.BinR _ _ .FloorDiv _ _ z ∧ _); refine CR.opI (CR.divA (by ktf_call "side") (by ktf_call "side")) ?_) | ((with_reducible show ∃ z, CR.BinR _ _ .Mod _ _ z ∧ _); refine CR.opI (CR.modI (by ktf_call "side")) ?_))
local macro_rules | `(tactic| ktf_call "OC") => `(tactic| first
  | with_reducible refine CR.opI (CR.ltI) ?_ | with_reducible refine CR.opI (CR.leI) ?_ | with_reducible refine CR.opI (CR.gtI) ?_ | with_reducible refine CR.opI (CR.geI) ?_ | with_reducible refine CR.opI (CR.eqI) ?_ | with_reducible refine CR.opI (CR.neI) ?_
  | with_reducible refine CR.opI (CR.eqS) ?_ | with_reducible refine CR.opI (CR.neS) ?_ | with_reducible refine CR.opI (CR.isN) ?_ | with_reducible refine CR.opI (CR.notN) ?_ | with_reducible refine CR.opI (CR.inC) ?_ | with_reducible refine CR.opI (CR.leS) ?_)
local macro_rules | `(tactic| ktf_call "OL") => `(tactic| first
  | ((with_reducible show ∃ z, CR.SlcR _ _ (.str _) (some _) (some _) z ∧ _); with_reducible refine CR.opI (CR.slcN (by ktf_call "side") (by ktf_call "side") (by ktf_call "side")) ?_)
  | ((with_reducible show ∃ z, CR.SlcR _ _ (.str _) none _ z ∧ _); with_reducible refine CR.opI (CR.slcTo (by ktf_call "side") (by ktf_call "side")) ?_) | ((with_reducible show ∃ z, CR.SlcR _ _ (.str _) _ none z ∧ _); with_reducible refine CR.opI (CR.slcFrom (by ktf_call "side") (by ktf_call "side")) ?_) | ((with_reducible show ∃ z, CR.SlcR _ _ (.str _) _ _ z ∧ _); with_reducible refine CR.opI (CR.slcS (by ktf_call "side")) ?_) | with_reducible refine CR.opI (CR.slcL (by assumption)) ?_)
local macro_rules | `(tactic| ktf_call "AA") => `(tactic| first | refine CR.wA_nil ?_ | refine CR.wA_cons ?_ | with_reducible refine CR.put2A ?_)
local macro_rules | `(tactic| ktf_call "M") => `(tactic| first
  | ((with_reducible show CR.Recv _ _ _ _ ∧ _); with_reducible refine And.intro (Hd.recvS (by ktf_call "St") (by with_unfolding_all rfl)) ?_)
  | ((with_reducible show ∃ s d s', _ ∧ Hd.ShW s _ _ s' ∧ _); with_reducible refine Hd.shwO (by ktf_call "St") (by with_reducible constructor) ?_)
  | with_reducible refine CR.fldO (by with_reducible assumption) (by with_unfolding_all rfl) ?_
  | ((with_reducible show ∃ C' fs' d', ((∃ a, CR.D.ref _ = CR.D.ref a ∧ _) ∨ _) ∧ _); with_reducible refine CR.fldR (by ktf_call "St") (by with_reducible assumption) (by with_unfolding_all rfl) ?_)
  | with_reducible refine ⟨_, CR.TruD.bl _, ?_⟩
  | ((with_reducible show @LE.le _ _ _ _ ∧ _); with_reducible refine CR.and_le (by ktf_call "side") ?_) | ((with_reducible show @LT.lt _ _ _ _ ∧ _); with_reducible refine CR.and_lt (by ktf_call "side") ?_)
  | ((with_reducible apply CR.pureI); focus (intro Q q; ktf_call "go"; exact q))
  | with_reducible refine ⟨_, _, _, _, rfl, by assumption, by assumption, ?_⟩
  | refine CR.wP_none ?_ | (refine CR.wP_some ?_) | refine CR.opI rfl ?_)
local macro_rules | `(tactic| ktf_call "one") => `(tactic| first
  | (refine CR.isE ?_; ktf_call "E")
  | (refine CR.isA ?_; ktf_call "AA")
  | (refine CR.isBlt ?_; ktf_call "OB")
  | (refine CR.isSub ?_; ktf_call "OS")
  | (refine CR.isBin ?_; ktf_call "OA")
  | (refine CR.isCmp ?_; first | ktf_call "O" | ktf_call "OC")
  | (refine CR.isSlc ?_; ktf_call "OL"))
local macro_rules | `(tactic| ktf_call "goE") => `(tactic| repeat (first | ktf_call "one" | ktf_call "C" | ktf_call "M"))
local macro_rules | `(tactic| ktf_call "go") => `(tactic| repeat (first | (refine CR.isSs ?_; ktf_call "SS") | (refine CR.isS ?_; first | with_reducible refine CR.put2s ?_ | ktf_call "S") | ktf_call "one" | (refine CR.isT ?_; first | with_reducible refine CR.put2T ?_ | ktf_call "T") | ktf_call "C" | ktf_call "M"))
local macro_rules | `(tactic| ktf_call ("bz", $h:ident)) => `(tactic| simp only [Bool.and_eq_true, Bool.or_eq_true, Bool.not_eq_true', Bool.not_eq_false', decide_eq_true_eq, decide_eq_false_iff_not, Bool.and_eq_false_iff, Bool.or_eq_false_iff, Int.ofNat_lt, Int.ofNat_le, Int.natCast_inj, CR.s_blank, CR.s_nl, CR.s_empty, CR.str_one] at $h:ident)

variable {Γ : Wd} {k : Nat} {f : Addr} {fd : FuncData}
abbrev lettersL : List Nat := [97,98,99,100,101,102,103,104,105,106,107,108,109,110,111,112,113,114,115,116,117,118,119,120,121,122,65,66,67,68,69,70,71,72,73,74,75,76,77,78,79,80,81,82,83,84,85,86,87,88,89,90,48,49,50,51,52,53,54,55,56,57]
theorem let_eq (c : Nat) : decide (c ∈ lettersL) = isLet c := by
  rw [Bool.eq_iff_iff, decide_eq_true_eq]
  unfold isLet
  simp only [lettersL, List.mem_cons, List.not_mem_nil, or_false, Bool.or_eq_true, Bool.and_eq_true, decide_eq_true_eq]
  omega
inductive spSLetter (cS : Addr) : FnS
  | mk {p d : Addr} {s : Sh} {i : Int} {S : Sto} {Q : D → Sto → Prop} {E : Addr → Sto → Prop} (hS : S p = some (insS cS s d)) (hl : s.now.length ≤ 50000) (q : Q (.bl (decide (0 ≤ i) && letAt s.now i.toNat)) S) : spSLetter cS [.ref p, .int i] S Q E
theorem ok_sheet_letter {cS : Addr} (F : FnM Γ "is_letter" "Sheet.is_letter" s_Sheet_is_letter f fd) (K : FSh Γ cS) (b_len : Γ.mg "len" = none) (gL : GlV Γ "LETTERS" (.str lettersL)) : OkD Γ 1 f fd ["self", "offset"] (spSLetter cS) := by
  refine okD F sc_Sheet_is_letter nm_Sheet_is_letter (by decide +kernel) (fun ds S Q E h => by cases h; rfl) (fun X B ds Q E G h => ?_)
  have Gg := G.g
  cases h with
  | @mk p d s i _ _ _ hS hl q =>
    show wSs Γ X B _ [.val (.ref p), .val (.int i)] B.S _
    refine wSs_cons (wS_ret (pE_and (y := decide (0 ≤ i) && decide (i < (s.now.length : Nat))) (z := decide (s.now.getD i.toNat 0 ∈ lettersL)) (fun Q q => ?g1) (fun hy => pE_one fun Q q => ?g2) _ ?g3))
    case g1 =>
      ktf_call "go"
      exact q
    case g2 =>
      ktf_call ("bz", hy)
      ktf_call "go"
      exact q
    case g3 =>
      have e : (decide (0 ≤ i) && decide (i < (s.now.length : Nat)) && decide (s.now.getD i.toNat 0 ∈ lettersL)) = (decide (0 ≤ i) && letAt s.now i.toNat) := by
        rw [let_eq]
        unfold letAt
        by_cases h : 0 ≤ i
        · rw [decide_eq_true h, Bool.true_and, Bool.true_and, show decide (i < (s.now.length : Nat)) = decide (i.toNat < s.now.length) from decide_eq_decide.mpr (by omega)]
        · rw [decide_eq_false h]
          rfl
      rw [e]
      exact q
local macro_rules | `(tactic| ktf_call "C") => `(tactic| first | refine spSLetter.mk (by ktf_call "St") (by ktf_call "side") ?_)
inductive spSWordR (cS : Addr) : FnS
  | mk {p d : Addr} {s : Sh} {c : Nat} {S : Sto} {Q : D → Sto → Prop} {E : Addr → Sto → Prop} (hS : S p = some (insS cS s d)) (hl : s.now.length ≤ 50000) (hc : c ≤ s.now.length) (q : Q (.int ((wordR s.now c : Nat) : Int)) S) : spSWordR cS [.ref p, .int (c : Nat)] S Q E
theorem ok_sheet_word_right {cS : Addr} (F : FnM Γ "word_right" "Sheet.word_right" s_Sheet_word_right f fd) (K : FSh Γ cS) (h_letter : Mt Γ cS "is_letter" 1 (spSLetter cS)) (b_len : Γ.mg "len" = none) : OkD Γ 2 f fd ["self", "offset"] (spSWordR cS) := by
  refine okD F sc_Sheet_word_right nm_Sheet_word_right (by decide +kernel) (fun ds S Q E h => by cases h; rfl) (fun X B ds Q E G h => ?_)
  have Gg := G.g
  cases h with
  | @mk p d s c _ _ _ hS hl hc q =>
    show wSs Γ X B _ [.val (.ref p), .val (.int (c : Nat))] B.S _
    have nn : ∀ (n : Nat), (decide ((0 : Int) ≤ (n : Int)) && letAt s.now ((n : Int)).toNat) = letAt s.now n := fun n => by
      rw [decide_eq_true (by omega), Bool.true_and, Int.toNat_natCast]
    refine wSs_cons (wS_while Gg (fun n ρ S => ∃ x : Nat, ρ = [.val (.ref p), .val (.int x)] ∧ S = B.S ∧ n = s.now.length - x ∧ x ≤ s.now.length ∧ sk (gapAt s.now) s.now.length x = sk (gapAt s.now) s.now.length c) _ ⟨c, rfl, rfl, rfl, hc, rfl⟩ ?_)
    rintro n ρ S ⟨x, rfl, rfl, rfl, hx, he⟩
    refine' wT_p (z := gapAt s.now x) (pT_W (pW_and (fun _ hq => ?g1) fun hlt => pW_and1 (pT_not fun _ hq => ?g2))) ⟨fun hz => ?g3, fun hz => ?g4⟩
    case g1 =>
      ktf_call "go"
      rw [show decide ((x : Int) < ((s.now.length : Nat) : Int)) = decide (x < s.now.length) from decide_eq_decide.mpr (by omega)]
      exact hq
    case g2 =>
      ktf_call "go"
      rw [nn]
      exact hq
    case g3 =>
      have h1 := gapAt_lt hz
      rw [sk_yes h1 hz] at he
      ktf_call "go"
      exact ⟨s.now.length - (x + 1), by omega, x + 1, rfl, rfl, rfl, by omega, he⟩
    case g4 =>
      rw [sk_no hz] at he
      refine wSs_cons (wS_while Gg (fun n ρ S => ∃ y : Nat, ρ = [.val (.ref p), .val (.int y)] ∧ S = B.S ∧ n = s.now.length - y ∧ y ≤ s.now.length ∧ sk (letAt s.now) s.now.length y = wordR s.now c) _ ⟨x, rfl, rfl, rfl, hx, by unfold wordR; rw [← he]⟩ ?_)
      rintro n ρ S ⟨y, rfl, rfl, rfl, hy, hw⟩
      ktf_call "go"
      rw [nn]
      refine ⟨fun hz => ?_, fun hz => ?_⟩
      · have h1 := letAt_lt hz
        rw [sk_yes h1 hz] at hw
        ktf_call "go"
        exact ⟨s.now.length - (y + 1), by omega, y + 1, rfl, rfl, rfl, by omega, hw⟩
      · rw [sk_no hz] at hw
        ktf_call "go"
        rw [hw]
        exact q
inductive spSWordL (cS : Addr) : FnS
  | mk {p d : Addr} {s : Sh} {c : Nat} {S : Sto} {Q : D → Sto → Prop} {E : Addr → Sto → Prop} (hS : S p = some (insS cS s d)) (hl : s.now.length ≤ 50000) (hc : c ≤ s.now.length) (q : Q (.int ((wordL s.now c : Nat) : Int)) S) : spSWordL cS [.ref p, .int (c : Nat)] S Q E
theorem backF_yes {p : Nat → Bool} {i : Nat} (h : p i = true) : backF p (i + 1) = backF p i := by
  show (if p i = true then _ else _) = _
  rw [if_pos h]
theorem backF_no {p : Nat → Bool} {i : Nat} (h : p i = false) : backF p (i + 1) = i + 1 := by
  show (if p i = true then _ else _) = _
  rw [if_neg (by rw [h]; decide)]
theorem ok_sheet_word_left {cS : Addr} (F : FnM Γ "word_left" "Sheet.word_left" s_Sheet_word_left f fd) (K : FSh Γ cS) (h_letter : Mt Γ cS "is_letter" 1 (spSLetter cS)) : OkD Γ 2 f fd ["self", "offset"] (spSWordL cS) := by
  refine okD F sc_Sheet_word_left nm_Sheet_word_left (by decide +kernel) (fun ds S Q E h => by cases h; rfl) (fun X B ds Q E G h => ?_)
  have Gg := G.g
  cases h with
  | @mk p d s c _ _ _ hS hl hc q =>
    show wSs Γ X B _ [.val (.ref p), .val (.int (c : Nat))] B.S _
    have nn : ∀ (n : Nat), (decide ((0 : Int) ≤ ((n + 1 : Nat) : Int) - 1) && letAt s.now (((n + 1 : Nat) : Int) - 1).toNat) = letAt s.now n := fun n => by
      rw [decide_eq_true (by omega), Bool.true_and, show (((n + 1 : Nat) : Int) - 1).toNat = n by omega]
    refine wSs_cons (wS_while Gg (fun n ρ S => ∃ x : Nat, ρ = [.val (.ref p), .val (.int x)] ∧ S = B.S ∧ n = x ∧ backF (fun k => !letAt s.now k) x = backF (fun k => !letAt s.now k) c) _ ⟨c, rfl, rfl, rfl, rfl⟩ ?_)
    rintro n ρ S ⟨x, rfl, rfl, rfl, he⟩
    cases n with
    | zero =>
      refine' wT_p (z := false) (pT_W (pW_and (y := false) (z := true) (fun _ hq => ?g1) fun hlt => by cases hlt)) ⟨fun hz => by (cases hz), fun hz => ?g4⟩
      case g1 =>
        ktf_call "go"
        exact hq
      case g4 =>
        have e0 : wordL s.now c = 0 := by
          unfold wordL
          rw [← he]
          rfl
        rw [e0] at q
        refine wSs_cons (wS_while Gg (fun n ρ S => ρ = [.val (.ref p), .val (.int ((0 : Nat) : Int))] ∧ S = B.S) 0 ⟨rfl, rfl⟩ ?_)
        rintro n ρ S ⟨rfl, rfl⟩
        ktf_call "go"
        refine ⟨fun hz => ?_, fun hz => ?_⟩
        · cases hz
        · ktf_call "go"
          exact q
    | succ x =>
      refine' wT_p (z := !letAt s.now x) (pT_W (pW_and (y := true) (fun _ hq => ?h1) fun hlt => pW_and1 (pT_not fun _ hq => ?h2))) ⟨fun hz => ?h3, fun hz => ?h4⟩
      case h1 =>
        ktf_call "go"
        rw [decide_eq_true (by omega)]
        exact hq
      case h2 =>
        ktf_call "go"
        rw [nn]
        exact hq
      case h3 =>
        have hz2 : (!letAt s.now x) = true := by simpa using hz
        rw [backF_yes (p := fun k => !letAt s.now k) hz2] at he
        ktf_call "go"
        refine ⟨x, by omega, x, ?_, rfl, rfl, he⟩
        rw [show (((x + 1 : Nat) : Int) - 1) = (x : Int) by omega]
      case h4 =>
        have hz2 : (!letAt s.now x) = false := by simpa using hz
        rw [backF_no (p := fun k => !letAt s.now k) hz2] at he
        refine wSs_cons (wS_while Gg (fun n ρ S => ∃ y : Nat, ρ = [.val (.ref p), .val (.int y)] ∧ S = B.S ∧ n = y ∧ backF (letAt s.now) y = wordL s.now c) _ ⟨x + 1, rfl, rfl, rfl, by unfold wordL; rw [← he]⟩ ?_)
        rintro n ρ S ⟨y, rfl, rfl, rfl, hw⟩
        cases n with
        | zero =>
          ktf_call "go"
          refine ⟨fun hz => ?_, fun hz => ?_⟩
          · cases hz
          · ktf_call "go"
            rw [show wordL s.now c = 0 from hw.symm] at q
            exact q
        | succ y =>
          ktf_call "go"
          rw [nn]
          refine ⟨fun hz => ?_, fun hz => ?_⟩
          · rw [backF_yes hz] at hw
            ktf_call "go"
            refine ⟨y, by omega, y, ?_, rfl, rfl, hw⟩
            rw [show (((y + 1 : Nat) : Int) - 1) = (y : Int) by omega]
          · rw [backF_no hz] at hw
            ktf_call "go"
            rw [hw]
            exact q
end Hd

end

section
namespace Hd
open PySem PySem.Spec PyProof.Rows L2 CR
local macro_rules | `(tactic| ktf_call "At") => `(tactic| with_reducible (repeat (first | exact CR.At.hd | apply CR.At.tl)))
local macro_rules | `(tactic| ktf_call "Up") => `(tactic| with_reducible (repeat (first | exact CR.UpF.hd | apply CR.UpF.tl)))
local macro_rules | `(tactic| ktf_call "Kd") => `(tactic| with_reducible (repeat (first | exact CR.Kd.hd | apply CR.Kd.tl)))
local macro_rules | `(tactic| ktf_call "KdV") => `(tactic| first | (refine Or.inl ?_; ktf_call "Kd"; done) | (refine Or.inr (Or.inl ?_); ktf_call "Kd"; done) | (refine Or.inr (Or.inr ?_); ktf_call "Kd"; done))
local macro_rules | `(tactic| ktf_call "KdL") => `(tactic| first | (refine Or.inl ?_; ktf_call "Kd"; done) | (refine Or.inr ?_; ktf_call "Kd"; done))
local macro_rules | `(tactic| ktf_call "side") => `(tactic| first | with_reducible assumption | omega | (simp only [List.length_nil, List.length_cons, List.length_append, List.length_map, List.length_take, List.length_drop]; omega) | decide)
local macro_rules | `(tactic| ktf_call "St") => `(tactic| first | with_reducible assumption | with_reducible exact CR.put_same)
local macro_rules | `(tactic| ktf_call "C") => `(tactic| fail)
local macro_rules | `(tactic| ktf_call "O") => `(tactic| fail)
local macro_rules | `(tactic| ktf_call "E") => `(tactic| first
  | ((with_reducible show CR.wE _ _ _ (.Name _ _) _ _ _); refine CR.eN (by assumption) (by ktf_call "At") (by ktf_call "KdV") ?_)
  | refine CR.wE_int ?_
  | with_reducible refine CR.wE_sp ?_
  | with_reducible refine CR.wE_nl ?_
  | with_reducible refine CR.wE_em ?_
  | refine CR.wE_str ?_
  | refine CR.wE_bool ?_
  | refine CR.wE_none ?_
  | ((with_reducible show CR.wE _ _ _ (.Attribute (.Name _ _) _ _) _ _ _); refine Hd.eSelf (by assumption) (by with_reducible assumption) (by ktf_call "At") (by ktf_call "KdV") (by ktf_call "St") (by with_reducible constructor) ?_)
  | refine CR.wE_bin ?_
  | ((with_reducible show CR.wE _ _ _ (.Call (.Name _ _) _ _ _) _ _ _); refine CR.eCall (by assumption) (by with_reducible assumption) (by first | decide | omega) (by ktf_call "Kd") ?_)
  | (((with_reducible show CR.wE _ _ _ (.Call (.Name _ _) _ _ _) _ _ _); refine CR.eIsX (by assumption) (by ktf_call "Kd") (by with_reducible assumption) ?_))
  | ((with_reducible show CR.wE _ _ _ (.Call (.Name _ _) _ _ _) _ _ _); refine CR.eBltS (by assumption) (by with_reducible constructor) (by ktf_call "Kd") (by with_reducible assumption) ?_)
  | ((with_reducible show CR.wE _ _ _ (.Call (.Name _ _) _ _ _) _ _ _); refine CR.eBtyS (by assumption) (by with_reducible constructor) (by ktf_call "Kd") (by with_reducible assumption) ?_)
  | ((with_reducible show CR.wE _ _ _ (.Name _ _) _ _ _); refine CR.eGlob (by assumption) (by with_reducible assumption) (by ktf_call "Kd") ?_)
  | refine CR.wE_cmp ?_
  | refine CR.eChain ?_
  | refine CR.wE_slice ?_
  | refine CR.wE_subS ?_
  | refine CR.wE_tup ?_
  | refine CR.wE_lst ?_
  | refine CR.wE_neg ?_
  | refine CR.wE_if ?_
  | ((with_reducible show CR.wE _ _ _ (.Call (.Attribute _ _ _) _ _ _) _ _ _); refine CR.wE_meth0 (by assumption) (by with_reducible assumption) (by first | decide | omega) ?_)
  | ((with_reducible show CR.wE _ _ _ (.Call (.Attribute _ _ _) _ _ _) _ _ _); refine CR.wE_meth (by assumption) (by with_reducible assumption) (by first | decide | omega) ?_)
  | ((with_reducible show CR.wE _ _ _ (.Attribute _ _ _) _ _ _); refine CR.wE_fld (by assumption) ?_)
  | with_reducible refine CR.put2E ?_)
local macro_rules | `(tactic| ktf_call "T") => `(tactic| first
  | refine CR.wT_cmp ?_
  | refine CR.tChain ?_
  | refine CR.wT_not ?_
  | refine CR.wT_val (by assumption) ?_)
local macro_rules | `(tactic| ktf_call "S") => `(tactic| first
  | refine CR.wS_ret ?_
  | refine CR.wS_if ?_
  | ((with_reducible show CR.wS _ _ _ (.Assign [.Attribute _ _ _] _ _) _ _ _); refine Hd.sSelf (by assumption) (by with_reducible assumption) (by ktf_call "At") (by ktf_call "KdV") ?_)
  | ((with_reducible show CR.wS _ _ _ (.Assign [.Name _ _] (.List _ _) _) _ _ _); refine CR.sOwn (es := []) (by assumption) (by ktf_call "Up") (by ktf_call "KdL") ?_)
  | ((with_reducible show CR.wS _ _ _ (.Expr (.Call (.Attribute _ _ _) _ _ _) _) _ _ _); refine CR.sApp (by assumption) (by ktf_call "At") (by ktf_call "Up") (by ktf_call "KdV") ?_)
  | ((with_reducible show CR.wS _ _ _ (.Expr (.Call (.Attribute _ _ _) _ _ _) _) _ _ _); refine CR.sExt (by assumption) (by ktf_call "At") (by ktf_call "Up") (by ktf_call "KdV") ?_)
  | ((with_reducible show CR.wS _ _ _ (.Assign [.Name _ _] _ _) _ _ _); refine CR.sSet (by assumption) (by ktf_call "Up") (by ktf_call "KdL") ?_)
  | ((with_reducible show CR.wS _ _ _ (.Raise _ _ _) _ _ _); refine CR.sRaise (by assumption) (by with_reducible assumption) (by ktf_call "Kd") ?_)
  | refine CR.wS_expr ?_
  | refine CR.wS_pass ?_
  | refine CR.wS_retN ?_)
local macro_rules | `(tactic| ktf_call "SS") => `(tactic| first
  | with_reducible refine CR.put2S ?_
  | refine CR.wSs_cons ?_
  | refine CR.wSs_nil ?_)
local macro_rules | `(tactic| ktf_call "OB") => `(tactic| first
  | ((with_reducible show CR.BltS _ _ _ _ [.str _] _); with_reducible refine CR.bltSR (CR.lenS (by ktf_call "side")) ?_) | ((with_reducible show CR.BltS _ _ _ _ [.lst _] _); with_reducible refine CR.bltSR (CR.lenL (by assumption)) ?_) | ((with_reducible show CR.BltS _ _ _ _ [.tup _] _); with_reducible refine CR.bltSR (CR.lenT (by assumption)) ?_)
  | ((with_reducible show CR.BltS _ _ _ _ [.ref _] _); with_reducible refine CR.lenR (by with_reducible assumption) (by ktf_call "St") ?_)
  | with_reducible refine CR.bltSR (CR.min2N (by assumption)) ?_ | with_reducible refine CR.bltSR (CR.max2N (by assumption)) ?_
  | with_reducible refine CR.bltSR (CR.ordS) ?_ | with_reducible refine CR.bltSR (CR.absI) ?_ | with_reducible refine CR.bltSR (CR.max2 (by assumption)) ?_ | with_reducible refine CR.bltSR (CR.min2 (by assumption)) ?_
  | with_reducible refine CR.bltSR (CR.copyL (by assumption)) ?_
  | with_reducible refine CR.bltSR (CR.intI) ?_ | with_reducible refine CR.bltSR (CR.intB) ?_)
local macro_rules | `(tactic| ktf_call "OS") => `(tactic| first
  | ((with_reducible show CR.SubS _ _ _ (.str _) _ _); with_reducible refine CR.subSR (CR.subSn (by ktf_call "side") (by ktf_call "side")) ?_) | ((with_reducible show CR.SubS _ _ _ (.str _) _ _); with_reducible refine CR.subSR (CR.subSi (by ktf_call "side") (by ktf_call "side") (by ktf_call "side")) ?_) | ((with_reducible show CR.SubS _ _ _ (.lst _) _ _); with_reducible refine CR.subSR (CR.subLn (by assumption) (by ktf_call "side")) ?_) | ((with_reducible show CR.SubS _ _ _ (.tup _) _ _); with_reducible refine CR.subSR (CR.subTn (by assumption) (by ktf_call "side")) ?_))
local macro_rules | `(tactic| ktf_call "OA") => `(tactic| first
  | with_reducible refine CR.opI (CR.addI) ?_ | with_reducible refine CR.opI (CR.subI) ?_ | ((with_reducible show ∃ z, CR.BinR _ _ _ (.str _) _ z ∧ _); with_reducible refine CR.opI (CR.addS (by ktf_call "side")) ?_)
  | ((with_reducible show ∃ z, CR.BinR _ _ .Mult _ _ z ∧ _); refine CR.opI (CR.mulA (by ktf_call "side") (by ktf_call "side")) ?_) | ((with_reducible show ∃ z, CR.BinR _ _ .FloorDiv _ _ z ∧ _); refine CR.opI (CR.divA (by ktf_call "side") (by ktf_call "side")) ?_) | ((with_reducible show ∃ z, CR.BinR _ _ .Mod _ _ z ∧ _); refine CR.opI (CR.modI (by ktf_call "side")) ?_))
local macro_rules | `(tactic| ktf_call "OC") => `(tactic| first
  | with_reducible refine CR.opI (CR.ltI) ?_ | with_reducible refine CR.opI (CR.leI) ?_ | with_reducible refine CR.opI (CR.gtI) ?_ | with_reducible refine CR.opI (CR.geI) ?_ | with_reducible refine CR.opI (CR.eqI) ?_ | with_reducible refine CR.opI (CR.neI) ?_
  | with_reducible refine CR.opI (CR.eqS) ?_ | with_reducible refine CR.opI (CR.neS) ?_ | with_reducible refine CR.opI (CR.isN) ?_ | with_reducible refine CR.opI (CR.notN) ?_ | with_reducible refine CR.opI (CR.inC) ?_ | with_reducible refine CR.opI (CR.leS) ?_)
local macro_rules | `(tactic| ktf_call "OL") => `(tactic| first
  | ((with_reducible show ∃ z, CR.SlcR _ _ (.str _) (some _) (some _) z ∧ _); with_reducible refine CR.opI (CR.slcN (by ktf_call "side") (by ktf_call "side") (by ktf_call "side")) ?_)
  | ((with_reducible show ∃ z, CR.SlcR _ _ (.str _) none _ z ∧ _); with_reducible refine CR.opI (CR.slcTo (by ktf_call "side") (by ktf_call "side")) ?_) | ((with_reducible show ∃ z, CR.SlcR _ _ (.str _) _ none z ∧ _); with_reducible refine CR.opI (CR.slcFrom (by ktf_call "side") (by ktf_call "side")) ?_) | ((with_reducible show ∃ z, CR.SlcR _ _ (.str _) _ _ z ∧ _); with_reducible refine CR.opI (CR.slcS (by ktf_call "side")) ?_) | with_reducible refine CR.opI (CR.slcL (by assumption)) ?_)
local macro_rules | `(tactic| ktf_call "AA") => `(tactic| first | refine CR.wA_nil ?_ | refine CR.wA_cons ?_ | with_reducible refine CR.put2A ?_)
local macro_rules | `(tactic| ktf_call "M") => `(tactic| first
  | ((with_reducible show CR.Recv _ _ _ _ ∧ _); with_reducible refine And.intro (Hd.recvS (by ktf_call "St") (by with_unfolding_all rfl)) ?_)
  | ((with_reducible show ∃ s d s', _ ∧ Hd.ShW s _ _ s' ∧ _); with_reducible refine Hd.shwO (by ktf_call "St") (by with_reducible constructor) ?_)
  | with_reducible refine CR.fldO (by with_reducible assumption) (by with_unfolding_all rfl) ?_
  | ((with_reducible show ∃ C' fs' d', ((∃ a, CR.D.ref _ = CR.D.ref a ∧ _) ∨ _) ∧ _); with_reducible refine CR.fldR (by ktf_call "St") (by with_reducible assumption) (by with_unfolding_all rfl) ?_)
  | with_reducible refine ⟨_, CR.TruD.bl _, ?_⟩
  | ((with_reducible show @LE.le _ _ _ _ ∧ _); with_reducible refine CR.and_le (by ktf_call "side") ?_) | ((with_reducible show @LT.lt _ _ _ _ ∧ _); with_reducible refine CR.and_lt (by ktf_call "side") ?_)
  | ((with_reducible apply CR.pureI); focus (intro Q q; ktf_call "go"; exact q))
  | with_reducible refine ⟨_, _, _, _, rfl, by assumption, by assumption, ?_⟩
  | refine CR.wP_none ?_ | (refine CR.wP_some ?_) | refine CR.opI rfl ?_)
local macro_rules | `(tactic| ktf_call "one") => `(tactic| first
  | (refine CR.isE ?_; ktf_call "E")
  | (refine CR.isA ?_; ktf_call "AA")
  | (refine CR.isBlt ?_; ktf_call "OB")
  | (refine CR.isSub ?_; ktf_call "OS")
  | (refine CR.isBin ?_; ktf_call "OA")
  | (refine CR.isCmp ?_; first | ktf_call "O" | ktf_call "OC")
  | (refine CR.isSlc ?_; ktf_call "OL"))
local macro_rules | `(tactic| ktf_call "goE") => `(tactic| repeat (first | ktf_call "one" | ktf_call "C" | ktf_call "M"))
local macro_rules | `(tactic| ktf_call "go") => `(tactic| repeat (first | (refine CR.isSs ?_; ktf_call "SS") | (refine CR.isS ?_; first | with_reducible refine CR.put2s ?_ | ktf_call "S") | ktf_call "one" | (refine CR.isT ?_; first | with_reducible refine CR.put2T ?_ | ktf_call "T") | ktf_call "C" | ktf_call "M"))
local macro_rules | `(tactic| ktf_call ("bz", $h:ident)) => `(tactic| simp only [Bool.and_eq_true, Bool.or_eq_true, Bool.not_eq_true', Bool.not_eq_false', decide_eq_true_eq, decide_eq_false_iff_not, Bool.and_eq_false_iff, Bool.or_eq_false_iff, Int.ofNat_lt, Int.ofNat_le, Int.natCast_inj, CR.s_blank, CR.s_nl, CR.s_empty, CR.str_one] at $h:ident)

variable {Γ : Wd} {k : Nat} {f : Addr} {fd : FuncData}
def mvStr : Mv → Str
  | .left => "left" | .right => "right" | .wordleft => "wordleft" | .wordright => "wordright" | .up => "up" | .down => "down" | .pageup => "pageup" | .pagedown => "pagedown"
  | .home => "home" | .end_ => "end" | .top => "top" | .bottom => "bottom" | .paraup => "paraup" | .paradown => "paradown"
def mvS (m : Mv) : List Nat := (mvStr m).cps.toList
def allMv : List Mv := [.left, .right, .wordleft, .wordright, .up, .down, .pageup, .pagedown, .home, .end_, .top, .bottom, .paraup, .paradown]
def mvOf (t : List Nat) : Option Mv := allMv.find? fun m => decide (mvS m = t)
theorem mvOf_mv (m : Mv) : mvOf (mvS m) = some m := by cases m <;> decide +kernel
theorem mvS_inj {m n : Mv} : mvS m = mvS n ↔ m = n := ⟨fun h => by
  have h1 := mvOf_mv m
  rw [h, mvOf_mv n] at h1
  exact (Option.some.inj h1).symm, fun h => by rw [h]⟩
theorem mvS_dec (m n : Mv) : decide (mvS m = mvS n) = decide (m = n) := decide_eq_decide.mpr mvS_inj
theorem mvOf_none {t : List Nat} (h : mvOf t = none) (m : Mv) : mvS m ≠ t := fun e => by
  have := List.find?_eq_none.mp h m (by cases m <;> decide)
  exact this (decide_eq_true e)
theorem mvOf_some {t : List Nat} {m : Mv} (h : mvOf t = some m) : mvS m = t := of_decide_eq_true (List.find?_some (p := fun m => decide (mvS m = t)) h)
abbrev movesD : List D := [.str (mvS .left), .str (mvS .right), .str (mvS .wordleft), .str (mvS .wordright), .str (mvS .up), .str (mvS .down), .str (mvS .pageup), .str (mvS .pagedown), .str (mvS .home), .str (mvS .end_), .str (mvS .top), .str (mvS .bottom), .str (mvS .paraup), .str (mvS .paradown)]
abbrev vertD : List D := [.str (mvS .up), .str (mvS .down), .str (mvS .pageup), .str (mvS .pagedown)]
theorem eqF_str (s t : List Nat) : eqF (.str s) (.str t) = decide (s = t) := rfl
theorem in_moves (t : List Nat) : (movesD.any fun y => eqF y (.str t)) = (mvOf t).isSome := by
  unfold mvOf allMv
  simp only [List.any_cons, List.any_nil, eqF_str, List.find?_cons, List.find?_nil]
  repeat' split
  all_goals simp_all
theorem in_vert (m : Mv) : (vertD.any fun y => eqF y (.str (mvS m))) = m.vert := by
  simp only [List.any_cons, List.any_nil, eqF_str, mvS_dec]
  cases m <;> rfl
theorem in_two (a b m : Mv) : ([D.str (mvS a), D.str (mvS b)].any fun y => eqF y (.str (mvS m))) = (decide (a = m) || decide (b = m)) := by
  simp only [List.any_cons, List.any_nil, eqF_str, mvS_dec, Bool.or_false]
theorem m_left : (Str.ofString "left").cps.toList = mvS .left := rfl
theorem m_right : (Str.ofString "right").cps.toList = mvS .right := rfl
theorem m_wordleft : (Str.ofString "wordleft").cps.toList = mvS .wordleft := rfl
theorem m_wordright : (Str.ofString "wordright").cps.toList = mvS .wordright := rfl
theorem m_up : (Str.ofString "up").cps.toList = mvS .up := rfl
theorem m_down : (Str.ofString "down").cps.toList = mvS .down := rfl
theorem m_pageup : (Str.ofString "pageup").cps.toList = mvS .pageup := rfl
theorem m_pagedown : (Str.ofString "pagedown").cps.toList = mvS .pagedown := rfl
theorem m_home : (Str.ofString "home").cps.toList = mvS .home := rfl
theorem m_end : (Str.ofString "end").cps.toList = mvS .end_ := rfl
theorem m_top : (Str.ofString "top").cps.toList = mvS .top := rfl
theorem m_bottom : (Str.ofString "bottom").cps.toList = mvS .bottom := rfl
theorem m_paraup : (Str.ofString "paraup").cps.toList = mvS .paraup := rfl
theorem m_paradown : (Str.ofString "paradown").cps.toList = mvS .paradown := rfl
/-- a move's written name -/
inductive MvN : Str → Mv → Prop
  | left : MvN "left" .left
  | right : MvN "right" .right
  | wordleft : MvN "wordleft" .wordleft
  | wordright : MvN "wordright" .wordright
  | up : MvN "up" .up
  | down : MvN "down" .down
  | pageup : MvN "pageup" .pageup
  | pagedown : MvN "pagedown" .pagedown
  | home : MvN "home" .home
  | end_ : MvN "end" .end_
  | top : MvN "top" .top
  | bottom : MvN "bottom" .bottom
  | paraup : MvN "paraup" .paraup
  | paradown : MvN "paradown" .paradown
theorem MvN.eq {z : Str} {n : Mv} (h : MvN z n) : z.cps.toList = mvS n := by cases h <;> rfl
theorem eqMv {X : Cx} {m n : Mv} {z : Str} (h : MvN z n) : CmpR Γ X .Eq (.str (mvS m)) (.str z.cps.toList) (decide (m = n)) := by
  have z := eqS (Γ := Γ) (X := X) (s := mvS m) (t := mvS n)
  rw [h.eq]
  rwa [mvS_dec] at z
theorem inMv {X : Cx} {B : Bs} {N : List Str} {nm : List (Str × NameKind)} {E : EK} {m a b : Mv} {y z : Str} (G : Gd Γ X N nm k B E) (h1 : MvN y a) (h2 : MvN z b) : CmpR Γ X .In (.str (mvS m)) (.tup [.str y.cps.toList, .str z.cps.toList]) (decide (a = m) || decide (b = m)) := by
  have z := inT (u := .str (mvS m)) (xs := [.str (mvS a), .str (mvS b)]) G rfl rfl
  rw [h1.eq, h2.eq]
  rwa [in_two] at z
theorem parU_eq {t : List Nat} {j : Nat} (h : j ≤ t.length) : Txt.rfindIn ⟨t.toArray⟩ ⟨[10].toArray⟩ 0 (j : Int) + 1 = ((parU t j : Nat) : Int) := by
  rcases rfind4N t 10 j h with ⟨h1, h2⟩ | ⟨k, h1, h2, h3, h4⟩
  · rw [h1, parU_none h2]; rfl
  · rw [h1, parU_at h3 h2 h4]; rfl
theorem parD_find {t : List Nat} {i : Nat} : (Txt.find3 ⟨t.toArray⟩ ⟨[10].toArray⟩ (i : Int) = -1 ∧ parD t i = t.length) ∨ (Txt.find3 ⟨t.toArray⟩ ⟨[10].toArray⟩ (i : Int) = ((parD t i : Nat) : Int)) := by
  rcases find3N t 10 i with ⟨h1, h2⟩ | ⟨k, h1, h2, h3, h4⟩
  · exact .inl ⟨h1, parD_none h2⟩
  · exact .inr (by rw [h1, parD_at h3 h2 h4])
inductive spSFlat (cS : Addr) : FnS
  | mk {p d : Addr} {s : Sh} {m : Mv} {S : Sto} {Q : D → Sto → Prop} {E : Addr → Sto → Prop} (hS : S p = some (insS cS s d)) (ok : s.Ok) (hm : m.vert = false) (h1 : m ≠ .home) (h2 : m ≠ .end_) (q : Q (.int ((flatG s.now s.caret m : Nat) : Int)) S) : spSFlat cS [.ref p, .str (mvS m)] S Q E
local macro_rules | `(tactic| ktf_call "O") => `(tactic| first | with_reducible refine CR.opI (Hd.eqMv (by with_reducible constructor)) ?_ | with_reducible refine CR.opI (Hd.inMv (by assumption) (by with_reducible constructor) (by with_reducible constructor)) ?_)
local macro_rules | `(tactic| ktf_call "C") => `(tactic| first | refine spSWordR.mk (by ktf_call "St") (by ktf_call "side") (by ktf_call "side") ?_ | refine spSWordL.mk (by ktf_call "St") (by ktf_call "side") (by ktf_call "side") ?_)
theorem ok_sheet_flat {cS : Addr} (F : FnM Γ "flat_goal" "Sheet.flat_goal" s_Sheet_flat_goal f fd) (K : FSh Γ cS) (h_wl : Mt Γ cS "word_left" 2 (spSWordL cS)) (h_wr : Mt Γ cS "word_right" 2 (spSWordR cS)) (b_len : Γ.mg "len" = none) (b_min : Γ.mg "min" = none) (b_max : Γ.mg "max" = none) : OkD Γ 3 f fd ["self", "move"] (spSFlat cS) := by
  refine okD F sc_Sheet_flat_goal nm_Sheet_flat_goal (by decide +kernel) (fun ds S Q E h => by cases h; rfl) (fun X B ds Q E G h => ?_)
  have Gg := G.g
  cases h with
  | @mk p d s m _ _ _ hS ok hm h1 h2 q =>
    have hl := ok.len
    have hc := ok.car
    show wSs Γ X B _ [.val (.ref p), .val (.str (mvS m)), .no] B.S _
    ktf_call "go"
    refine ⟨fun hz => ?_, fun hz => ?_⟩
    · have e := of_decide_eq_true hz
      subst e
      ktf_call "go"
      rw [show max (0 : Int) ((s.caret : Nat) - 1) = ((s.caret - 1 : Nat) : Int) by omega]
      exact q
    · have e1 := of_decide_eq_false hz
      ktf_call "go"
      refine ⟨fun hz => ?_, fun hz => ?_⟩
      · have e := of_decide_eq_true hz
        subst e
        ktf_call "go"
        first
          | exact q
          | (rw [show min ((s.now.length : Nat) : Int) (((s.caret : Nat) : Int) + 1) = ((min s.now.length (s.caret + 1) : Nat) : Int) by omega]; exact q)
      · have e2 := of_decide_eq_false hz
        ktf_call "go"
        refine ⟨fun hz => ?_, fun hz => ?_⟩
        · ktf_call "go"
          refine ⟨fun hz4 => ?_, fun hz4 => ?_⟩
          · have e := of_decide_eq_true hz4
            subst e
            ktf_call "go"
            exact q
          · have e4 := of_decide_eq_false hz4
            have e : Mv.wordright = m := by
              rw [Bool.or_eq_true, decide_eq_true_eq, decide_eq_true_eq] at hz
              exact hz.resolve_left fun z => e4 z.symm
            subst e
            ktf_call "go"
            exact q
        · rw [Bool.or_eq_false_iff, decide_eq_false_iff_not, decide_eq_false_iff_not] at hz
          obtain ⟨e3, e4⟩ := hz
          ktf_call "go"
          refine ⟨fun hz => ?_, fun hz => ?_⟩
          · ktf_call "go"
            refine ⟨fun hz4 => ?_, fun hz4 => ?_⟩
            · have e := of_decide_eq_true hz4
              subst e
              ktf_call "go"
              exact q
            · have e4 := of_decide_eq_false hz4
              have e : Mv.bottom = m := by
                rw [Bool.or_eq_true, decide_eq_true_eq, decide_eq_true_eq] at hz
                exact hz.resolve_left fun z => e4 z.symm
              subst e
              ktf_call "go"
              exact q
          · rw [Bool.or_eq_false_iff, decide_eq_false_iff_not, decide_eq_false_iff_not] at hz
            obtain ⟨e5, e6⟩ := hz
            ktf_call "go"
            refine ⟨fun hz => ?_, fun hz => ?_⟩
            · have e := of_decide_eq_true hz
              subst e
              refine wSs_cons (wS_ret (wE_bin (wE_bm Gg ?_)))
              ktf_call "go"
              refine ⟨_, _, m_rfind, tyStr, ?_⟩
              ktf_call "go"
              rw [show max (0 : Int) ((s.caret : Nat) - 1) = ((s.caret - 1 : Nat) : Int) by omega]
              refine opI rfind4D ?_
              ktf_call "go"
              rw [parU_eq (by omega)]
              exact q
            · have e7 := of_decide_eq_false hz
              have em : m = .paradown := by cases m <;> simp_all [Mv.vert]
              subst em
              refine wSs_nil (wSs_cons (sSet G (by ktf_call "Up") (by ktf_call "KdL") (wE_bm Gg ?_)))
              ktf_call "go"
              refine ⟨_, _, m_find, tyStr, ?_⟩
              ktf_call "go"
              rw [show ((s.caret : Nat) : Int) + 1 = ((s.caret + 1 : Nat) : Int) by omega]
              refine opI find3D ?_
              have hq : ((parD s.now (s.caret + 1) : Nat) : Int) = ((flatG s.now s.caret .paradown : Nat) : Int) := rfl
              rcases parD_find (t := s.now) (i := s.caret + 1) with ⟨z1, z2⟩ | z1
              · rw [z1]
                ktf_call "go"
                refine ⟨fun _ => ?_, fun hz => ?_⟩
                · ktf_call "go"
                  rw [← z2]
                  exact q
                · exact absurd rfl (of_decide_eq_false hz)
              · rw [z1]
                ktf_call "go"
                refine ⟨fun hz => ?_, fun hz => ?_⟩
                · exact absurd (of_decide_eq_true hz) (by omega)
                · ktf_call "go"
                  exact q
end Hd

end

section
namespace Hd
open PySem PySem.Spec PyProof.Rows L2 CR
local macro_rules | `(tactic| ktf_call "At") => `(tactic| with_reducible (repeat (first | exact CR.At.hd | apply CR.At.tl)))
local macro_rules | `(tactic| ktf_call "Up") => `(tactic| with_reducible (repeat (first | exact CR.UpF.hd | apply CR.UpF.tl)))
local macro_rules | `(tactic| ktf_call "Kd") => `(tactic| with_reducible (repeat (first | exact CR.Kd.hd | apply CR.Kd.tl)))
local macro_rules | `(tactic| ktf_call "KdV") => `(tactic| first | (refine Or.inl ?_; ktf_call "Kd"; done) | (refine Or.inr (Or.inl ?_); ktf_call "Kd"; done) | (refine Or.inr (Or.inr ?_); ktf_call "Kd"; done))
local macro_rules | `(tactic| ktf_call "KdL") => `(tactic| first | (refine Or.inl ?_; ktf_call "Kd"; done) | (refine Or.inr ?_; ktf_call "Kd"; done))
local macro_rules | `(tactic| ktf_call "side") => `(tactic| first | with_reducible assumption | omega | (simp only [List.length_nil, List.length_cons, List.length_append, List.length_map, List.length_take, List.length_drop]; omega) | decide)
local macro_rules | `(tactic| ktf_call "St") => `(tactic| first | with_reducible assumption | with_reducible exact CR.put_same)
local macro_rules | `(tactic| ktf_call "C") => `(tactic| fail)
local macro_rules | `(tactic| ktf_call "O") => `(tactic| fail)
local macro_rules | `(tactic| ktf_call "E") => `(tactic| first
  | ((with_reducible show CR.wE _ _ _ (.Name _ _) _ _ _); refine CR.eN (by assumption) (by ktf_call "At") (by ktf_call "KdV") ?_)
  | refine CR.wE_int ?_
  | with_reducible refine CR.wE_sp ?_
  | with_reducible refine CR.wE_nl ?_
  | with_reducible refine CR.wE_em ?_
  | refine CR.wE_str ?_
  | refine CR.wE_bool ?_
  | refine CR.wE_none ?_
  | ((with_reducible show CR.wE _ _ _ (.Attribute (.Name _ _) _ _) _ _ _); refine Hd.eSelf (by assumption) (by with_reducible assumption) (by ktf_call "At") (by ktf_call "KdV") (by ktf_call "St") (by with_reducible constructor) ?_)
  | refine CR.wE_bin ?_
  | ((with_reducible show CR.wE _ _ _ (.Call (.Name _ _) _ _ _) _ _ _); refine CR.eCall (by assumption) (by with_reducible assumption) (by first | decide | omega) (by ktf_call "Kd") ?_)
  | (((with_reducible show CR.wE _ _ _ (.Call (.Name _ _) _ _ _) _ _ _); refine CR.eIsX (by assumption) (by ktf_call "Kd") (by with_reducible assumption) ?_))
  | ((with_reducible show CR.wE _ _ _ (.Call (.Name _ _) _ _ _) _ _ _); refine CR.eBltS (by assumption) (by with_reducible constructor) (by ktf_call "Kd") (by with_reducible assumption) ?_)
  | ((with_reducible show CR.wE _ _ _ (.Call (.Name _ _) _ _ _) _ _ _); refine CR.eBtyS (by assumption) (by with_reducible constructor) (by ktf_call "Kd") (by with_reducible assumption) ?_)
  | ((with_reducible show CR.wE _ _ _ (.Name _ _) _ _ _); refine CR.eGlob (by assumption) (by with_reducible assumption) (by ktf_call "Kd") ?_)
  | refine CR.wE_cmp ?_
  | refine CR.eChain ?_
  | refine CR.wE_slice ?_
  | refine CR.wE_subS ?_
  | refine CR.wE_tup ?_
  | refine CR.wE_lst ?_
  | refine CR.wE_neg ?_
  | refine CR.wE_if ?_
  | ((with_reducible show CR.wE _ _ _ (.Call (.Attribute _ _ _) _ _ _) _ _ _); refine CR.wE_meth0 (by assumption) (by with_reducible assumption) (by first | decide | omega) ?_)
  | ((with_reducible show CR.wE _ _ _ (.Call (.Attribute _ _ _) _ _ _) _ _ _); refine CR.wE_meth (by assumption) (by with_reducible assumption) (by first | decide | omega) ?_)
  | ((with_reducible show CR.wE _ _ _ (.Attribute _ _ _) _ _ _); refine CR.wE_fld (by assumption) ?_)
  | with_reducible refine CR.put2E ?_)
local macro_rules | `(tactic| ktf_call "T") => `(tactic| first
  | refine CR.wT_cmp ?_
  | refine CR.tChain ?_
  | refine CR.wT_not ?_
  | refine CR.wT_val (by assumption) ?_)
local macro_rules | `(tactic| ktf_call "S") => `(tactic| first
  | refine CR.wS_ret ?_
  | refine CR.wS_if ?_
  | ((with_reducible show CR.wS _ _ _ (.Assign [.Attribute _ _ _] _ _) _ _ _); refine Hd.sSelf (by assumption) (by with_reducible assumption) (by ktf_call "At") (by ktf_call "KdV") ?_)
  | ((with_reducible show CR.wS _ _ _ (.Assign [.Name _ _] (.List _ _) _) _ _ _); refine CR.sOwn (es := []) (by assumption) (by ktf_call "Up") (by ktf_call "KdL") ?_)
  | ((with_reducible show CR.wS _ _ _ (.Expr (.Call (.Attribute _ _ _) _ _ _) _) _ _ _); refine CR.sApp (by assumption) (by ktf_call "At") (by ktf_call "Up") (by ktf_call "KdV") ?_)
  | ((with_reducible show CR.wS _ _ _ (.Expr (.Call (.Attribute _ _ _) _ _ _) _) _ _ _); refine CR.sExt (by assumption) (by ktf_call "At") (by ktf_call "Up") (by ktf_call "KdV") ?_)
  | ((with_reducible show CR.wS _ _ _ (.Assign [.Name _ _] _ _) _ _ _); refine CR.sSet (by assumption) (by ktf_call "Up") (by ktf_call "KdL") ?_)
  | ((with_reducible show CR.wS _ _ _ (.Raise _ _ _) _ _ _); refine CR.sRaise (by assumption) (by with_reducible assumption) (by ktf_call "Kd") ?_)
  | refine CR.wS_expr ?_
  | refine CR.wS_pass ?_
  | refine CR.wS_retN ?_)
local macro_rules | `(tactic| ktf_call "SS") => `(tactic| first
  | with_reducible refine CR.put2S ?_
  | refine CR.wSs_cons ?_
  | refine CR.wSs_nil ?_)
local macro_rules | `(tactic| ktf_call "OB") => `(tactic| first
  | ((with_reducible show CR.BltS _ _ _ _ [.str _] _); with_reducible refine CR.bltSR (CR.lenS (by ktf_call "side")) ?_) | ((with_reducible show CR.BltS _ _ _ _ [.lst _] _); with_reducible refine CR.bltSR (CR.lenL (by assumption)) ?_) | ((with_reducible show CR.BltS _ _ _ _ [.tup _] _); with_reducible refine CR.bltSR (CR.lenT (by assumption)) ?_)
  | ((with_reducible show CR.BltS _ _ _ _ [.ref _] _); with_reducible refine CR.lenR (by with_reducible assumption) (by ktf_call "St") ?_)
  | with_reducible refine CR.bltSR (CR.min2N (by assumption)) ?_ | with_reducible refine CR.bltSR (CR.max2N (by assumption)) ?_
  | with_reducible refine CR.bltSR (CR.ordS) ?_ | with_reducible refine CR.bltSR (CR.absI) ?_ | with_reducible refine CR.bltSR (CR.max2 (by assumption)) ?_ | with_reducible refine CR.bltSR (CR.min2 (by assumption)) ?_
  | with_reducible refine CR.bltSR (CR.copyL (by assumption)) ?_
  | with_reducible refine CR.bltSR (CR.intI) ?_ | with_reducible refine CR.bltSR (CR.intB) ?_)
local macro_rules | `(tactic| ktf_call "OS") => `(tactic| first
  | ((with_reducible show CR.SubS _ _ _ (.str _) _ _); with_reducible refine CR.subSR (CR.subSn (by ktf_call "side") (by ktf_call "side")) ?_) | ((with_reducible show CR.SubS _ _ _ (.str _) _ _); with_reducible refine CR.subSR (CR.subSi (by ktf_call "side") (by ktf_call "side") (by ktf_call "side")) ?_) | ((with_reducible show CR.SubS _ _ _ (.lst _) _ _); with_reducible refine CR.subSR (CR.subLn (by assumption) (by ktf_call "side")) ?_) | ((with_reducible show CR.SubS _ _ _ (.tup _) _ _); with_reducible refine CR.subSR (CR.subTn (by assumption) (by ktf_call "side")) ?_))
local macro_rules | `(tactic| ktf_call "OA") => `(tactic| first
  | with_reducible refine CR.opI (CR.addI) ?_ | with_reducible refine CR.opI (CR.subI) ?_ | ((with_reducible show ∃ z, CR.BinR _ _ _ (.str _) _ z ∧ _); with_reducible refine CR.opI (CR.addS (by ktf_call "side")) ?_)
  | ((with_reducible show ∃ z, CR.BinR _ _ .Mult _ _ z ∧ _); refine CR.opI (CR.mulA (by ktf_call "side") (by ktf_call "side")) ?_) | ((with_reducible show ∃ z, CR.BinR _ _ .FloorDiv _ _ z ∧ _); refine CR.opI (CR.divA (by ktf_call "side") (by ktf_call "side")) ?_) | ((with_reducible show ∃ z, CR.BinR _ _ .Mod _ _ z ∧ _); refine CR.opI (CR.modI (by ktf_call "side")) ?_))
local macro_rules | `(tactic| ktf_call "OC") => `(tactic| first
  | with_reducible refine CR.opI (CR.ltI) ?_ | with_reducible refine CR.opI (CR.leI) ?_ | with_reducible refine CR.opI (CR.gtI) ?_ | with_reducible refine CR.opI (CR.geI) ?_ | with_reducible refine CR.opI (CR.eqI) ?_ | with_reducible refine CR.opI (CR.neI) ?_
  | with_reducible refine CR.opI (CR.eqS) ?_ | with_reducible refine CR.opI (CR.neS) ?_ | with_reducible refine CR.opI (CR.isN) ?_ | with_reducible refine CR.opI (CR.notN) ?_ | with_reducible refine CR.opI (CR.inC) ?_ | with_reducible refine CR.opI (CR.leS) ?_)
local macro_rules | `(tactic| ktf_call "OL") => `(tactic| first
  | ((with_reducible show ∃ z, CR.SlcR _ _ (.str _) (some _) (some _) z ∧ _); with_reducible refine CR.opI (CR.slcN (by ktf_call "side") (by ktf_call "side") (by ktf_call "side")) ?_)
  | ((with_reducible show ∃ z, CR.SlcR _ _ (.str _) none _ z ∧ _); with_reducible refine CR.opI (CR.slcTo (by ktf_call "side") (by ktf_call "side")) ?_) | ((with_reducible show ∃ z, CR.SlcR _ _ (.str _) _ none z ∧ _); with_reducible refine CR.opI (CR.slcFrom (by ktf_call "side") (by ktf_call "side")) ?_) | ((with_reducible show ∃ z, CR.SlcR _ _ (.str _) _ _ z ∧ _); with_reducible refine CR.opI (CR.slcS (by ktf_call "side")) ?_) | with_reducible refine CR.opI (CR.slcL (by assumption)) ?_)
local macro_rules | `(tactic| ktf_call "AA") => `(tactic| first | refine CR.wA_nil ?_ | refine CR.wA_cons ?_ | with_reducible refine CR.put2A ?_)
local macro_rules | `(tactic| ktf_call "M") => `(tactic| first
  | ((with_reducible show CR.Recv _ _ _ _ ∧ _); with_reducible refine And.intro (Hd.recvS (by ktf_call "St") (by with_unfolding_all rfl)) ?_)
  | ((with_reducible show ∃ s d s', _ ∧ Hd.ShW s _ _ s' ∧ _); with_reducible refine Hd.shwO (by ktf_call "St") (by with_reducible constructor) ?_)
  | with_reducible refine CR.fldO (by with_reducible assumption) (by with_unfolding_all rfl) ?_
  | ((with_reducible show ∃ C' fs' d', ((∃ a, CR.D.ref _ = CR.D.ref a ∧ _) ∨ _) ∧ _); with_reducible refine CR.fldR (by ktf_call "St") (by with_reducible assumption) (by with_unfolding_all rfl) ?_)
  | with_reducible refine ⟨_, CR.TruD.bl _, ?_⟩
  | ((with_reducible show @LE.le _ _ _ _ ∧ _); with_reducible refine CR.and_le (by ktf_call "side") ?_) | ((with_reducible show @LT.lt _ _ _ _ ∧ _); with_reducible refine CR.and_lt (by ktf_call "side") ?_)
  | ((with_reducible apply CR.pureI); focus (intro Q q; ktf_call "go"; exact q))
  | with_reducible refine ⟨_, _, _, _, rfl, by assumption, by assumption, ?_⟩
  | refine CR.wP_none ?_ | (refine CR.wP_some ?_) | refine CR.opI rfl ?_)
local macro_rules | `(tactic| ktf_call "one") => `(tactic| first
  | (refine CR.isE ?_; ktf_call "E")
  | (refine CR.isA ?_; ktf_call "AA")
  | (refine CR.isBlt ?_; ktf_call "OB")
  | (refine CR.isSub ?_; ktf_call "OS")
  | (refine CR.isBin ?_; ktf_call "OA")
  | (refine CR.isCmp ?_; first | ktf_call "O" | ktf_call "OC")
  | (refine CR.isSlc ?_; ktf_call "OL"))
local macro_rules | `(tactic| ktf_call "goE") => `(tactic| repeat (first | ktf_call "one" | ktf_call "C" | ktf_call "M"))
local macro_rules | `(tactic| ktf_call "go") => `(tactic| repeat (first | (refine CR.isSs ?_; ktf_call "SS") | (refine CR.isS ?_; first | with_reducible refine CR.put2s ?_ | ktf_call "S") | ktf_call "one" | (refine CR.isT ?_; first | with_reducible refine CR.put2T ?_ | ktf_call "T") | ktf_call "C" | ktf_call "M"))
local macro_rules | `(tactic| ktf_call ("bz", $h:ident)) => `(tactic| simp only [Bool.and_eq_true, Bool.or_eq_true, Bool.not_eq_true', Bool.not_eq_false', decide_eq_true_eq, decide_eq_false_iff_not, Bool.and_eq_false_iff, Bool.or_eq_false_iff, Int.ofNat_lt, Int.ofNat_le, Int.natCast_inj, CR.s_blank, CR.s_nl, CR.s_empty, CR.str_one] at $h:ident)

variable {Γ : Wd} {k : Nat} {f : Addr} {fd : FuncData}
local macro_rules | `(tactic| ktf_call "O") => `(tactic| first | with_reducible refine CR.opI (Hd.eqMv (by with_reducible constructor)) ?_ | with_reducible refine CR.opI (Hd.inMv (by assumption) (by with_reducible constructor) (by with_reducible constructor)) ?_)
local macro_rules | `(tactic| ktf_call "C") => `(tactic| first | refine spSRows.mk (by ktf_call "St") (by ktf_call "side") (by ktf_call "side") ?_ | refine spRowAt.mk (by assumption) (by ktf_call "side") ?_ | refine spSChosen.mk (by ktf_call "St") ?_)
theorem subRows {X : Cx} {B : Bs} {N : List Str} {nm : List (Str × NameKind)} {E : EK} {cR : Addr} {R : List RowT} {i : Nat} {S : Sto} {P : D → Sto → Prop} (G : Gd Γ X N nm k B E) (h : i < R.length) (q : P (rowO cR (rowD0 R i)) S) : SubS Γ X S (.lst (R.map (rowO cR))) (.int (i : Nat)) P := by
  have h1 : i < (R.map (rowO cR)).length := by rw [List.length_map]; exact h
  refine subSR (subLn G h1) ?_
  rw [rows_at h]
  exact q
inductive spSMoveRows (cS : Addr) : FnS
  | mk {p d : Addr} {s : Sh} {n : Int} {ch : Bool} {S : Sto} {Q : D → Sto → Prop} {E : Addr → Sto → Prop} (hS : S p = some (insS cS s d)) (ok : s.Ok) (q : Q .non (put S p (insS cS (s.rowsMove n ch) d))) : spSMoveRows cS [.ref p, .int n, .bl ch] S Q E
theorem col_le {s : Sh} (ok : s.Ok) : s.col ≤ 4000 := by
  obtain ⟨h1, h2, h3⟩ := row_in ok
  have h4 := ok.len
  have h5 := ok.car
  have h6 := (wideN_len (seg s.now (rowD0 s.R s.row).1 s.caret)).2
  rw [seg_len h5] at h6
  unfold Sh.col colOf
  omega
theorem nearO_len {s : Sh} (ok : s.Ok) {k w : Nat} (h : k < s.R.length) : nearO s.now (rowD0 s.R k) w ≤ s.now.length := by
  obtain ⟨h1, h2⟩ := rowD0_in ok.w2 h
  exact Nat.le_trans (nearO_in _ w h1).2 h2
theorem ok_sheet_move_rows {cS cR : Addr} (F : FnM Γ "move_rows" "Sheet.move_rows" s_Sheet_move_rows f fd) (K : FSh Γ cS) (h_rows : Mt Γ cS "rows" 6 (spSRows cS cR)) (h_row_at : Fn Γ "row_at" 1 (spRowAt cR)) (h_column : Fn Γ "column_of" 2 (spColumn cR)) (h_put : Mt Γ cS "put" 8 (spSPut cS)) (h_near : Fn Γ "offset_at" 3 (spOffsetAt cR)) (h_soft : Fn Γ "is_soft_end" 1 (spSoftEnd cR))
    (b_len : Γ.mg "len" = none) (b_min : Γ.mg "min" = none) (b_max : Γ.mg "max" = none) : OkD Γ 9 f fd ["self", "many", "is_choosing"] (spSMoveRows cS) := by
  refine okD F sc_Sheet_move_rows nm_Sheet_move_rows (by decide +kernel) (fun ds S Q E h => by cases h; rfl) (fun X B ds Q E G h => ?_)
  have Gg := G.g
  cases h with
  | @mk p d s n ch _ _ _ hS ok q =>
    have hl := ok.len
    have hw := ok.w2
    have hrl := ok.rlen
    have hne := ok.rne
    have hrow := ok.row_lt
    obtain ⟨hr1, hr2, hr3⟩ := row_in ok
    show wSs Γ X B _ [.val (.ref p), .val (.int n), .val (.bl ch), .no, .no, .no, .no, .no] B.S _
    refine wSs_cons (sSet G (by ktf_call "Up") (by ktf_call "KdL") ?_)
    ktf_call "goE"
    refine wSs_cons (sSet G (by ktf_call "Up") (by ktf_call "KdL") ?_)
    ktf_call "goE"
    rw [show rowAt s.caret s.back s.R = s.row from rfl]
    refine wSs_cons (sSet G (by ktf_call "Up") (by ktf_call "KdL") (wE_p (d := .int ((s.wish.getD s.col : Nat) : Int)) (fun Q q => ?g1) ?g2))
    case g1 =>
      cases e : s.wish with
      | none =>
        rw [e] at q
        ktf_call "goE"
        refine wT_cmp ?_
        ktf_call "goE"
        rw [e]
        ktf_call "goE"
        refine ⟨fun _ => ?_, fun z => by cases z⟩
        ktf_call "goE"
        rw [rows_at hrow]
        ktf_call "goE"
        refine spColumn.mk (by omega) hr1 (by omega) ?_
        exact q
      | some v =>
        rw [e] at q
        ktf_call "goE"
        refine wT_cmp ?_
        ktf_call "goE"
        rw [e]
        ktf_call "goE"
        refine ⟨fun z => (by cases z), fun _ => ?_⟩
        ktf_call "goE"
        rw [e]
        exact q
    case g2 =>
      have hwl : s.wish.getD s.col ≤ 100000 := by
        cases e : s.wish with
        | none => have := col_le ok; show s.col ≤ 100000; omega
        | some v => exact ok.wsh v e
      have fin : ∀ s1 : Sh, s1 = (if (s.row : Int) + n < 0 ∧ s.row = 0 then s.put 0 false ch
          else if (s.R.length : Int) ≤ (s.row : Int) + n ∧ s.row + 1 = s.R.length then s.put s.now.length false ch
          else s.put (nearO s.now (rowD0 s.R (max 0 (min ((s.row : Int) + n) ((s.R.length : Int) - 1))).toNat) (s.wish.getD s.col)) (softEnd s.R (max 0 (min ((s.row : Int) + n) ((s.R.length : Int) - 1))).toNat (nearO s.now (rowD0 s.R (max 0 (min ((s.row : Int) + n) ((s.R.length : Int) - 1))).toNat) (s.wish.getD s.col))) ch) → Q .non (put B.S p (insS cS { s1 with wish := some (s.wish.getD s.col) } d)) := fun s1 e => by
        subst e
        exact q
      generalize s.wish.getD s.col = w at *
      refine wSs_cons (sSet G (by ktf_call "Up") (by ktf_call "KdL") ?_)
      ktf_call "goE"
      refine wSs_cons (wS_if (wT_p (z := decide ((s.row : Int) + n < 0) && decide ((s.row : Int) = 0)) (pT_W (pW_and (fun _ hq => ?t1) fun _ => pW_and1 fun _ hq => ?t2)) ⟨fun hz => ?y1, fun hz => ?n1⟩))
      case t1 =>
        refine wT_cmp ?_
        ktf_call "goE"
        exact hq
      case t2 =>
        refine wT_cmp ?_
        ktf_call "goE"
        exact hq
      case y1 =>
        ktf_call ("bz", hz)
        ktf_call "go"
        refine spPut' (o := 0) hS ok (Nat.zero_le _) ?_
        ktf_call "go"
        try simp only [put_put]
        refine fin _ ?_
        rw [if_pos (by omega)]
      case n1 =>
        have h1 : ¬ ((s.row : Int) + n < 0 ∧ s.row = 0) := by
          ktf_call ("bz", hz)
          omega
        refine wSs_cons (wS_if (wT_p (z := decide (((s.R.length : Nat) : Int) ≤ (s.row : Int) + n) && decide ((s.row : Int) = ((s.R.length : Nat) : Int) - 1)) (pT_W (pW_and (fun _ hq => ?t3) fun _ => pW_and1 fun _ hq => ?t4)) ⟨fun hz => ?y2, fun hz => ?n2⟩))
        case t3 =>
          refine wT_cmp ?_
          ktf_call "goE"
          rw [List.length_map]
          exact hq
        case t4 =>
          refine wT_cmp ?_
          ktf_call "goE"
          rw [List.length_map]
          exact hq
        case y2 =>
          have h2 : (s.R.length : Int) ≤ (s.row : Int) + n ∧ s.row + 1 = s.R.length := by
            ktf_call ("bz", hz)
            omega
          ktf_call "go"
          refine spPut' hS ok (Nat.le_refl _) ?_
          ktf_call "go"
          try simp only [put_put]
          refine fin _ ?_
          rw [if_neg h1, if_pos h2]
        case n2 =>
          have h2 : ¬ ((s.R.length : Int) ≤ (s.row : Int) + n ∧ s.row + 1 = s.R.length) := by
            ktf_call ("bz", hz)
            omega
          have hk : ∃ g : Nat, max (0 : Int) (min ((s.row : Int) + n) ((s.R.length : Int) - 1)) = (g : Int) ∧ g < s.R.length := ⟨(max (0 : Int) (min ((s.row : Int) + n) ((s.R.length : Int) - 1))).toNat, by omega, by omega⟩
          obtain ⟨g, hg, hgl⟩ := hk
          rw [hg, Int.toNat_natCast] at fin
          obtain ⟨hn1, hn2⟩ := rowD0_in hw hgl
          have hno := nearO_len (w := w) ok hgl
          refine wSs_cons (sSet G (by ktf_call "Up") (by ktf_call "KdL") ?_)
          ktf_call "goE"
          rw [List.length_map, hg]
          refine wSs_cons (sSet G (by ktf_call "Up") (by ktf_call "KdL") ?_)
          ktf_call "goE"
          rw [rows_at hgl]
          ktf_call "goE"
          refine spOffsetAt.mk (by omega) hn1 hn2 ?_
          ktf_call "go"
          refine spSoftEnd.mk hgl ?_
          ktf_call "go"
          refine spPut' hS ok hno ?_
          ktf_call "go"
          try simp only [put_put]
          refine fin _ ?_
          rw [if_neg h1, if_neg h2]
inductive spSMove (cS cM : Addr) : FnS
  | mk {p d : Addr} {s : Sh} {t : List Nat} {ch : Bool} {S : Sto} {Q : D → Sto → Prop} {E : Addr → Sto → Prop} (hS : S p = some (insS cS s d)) (ok : s.Ok) (q : ∀ m, t = mvS m → Q .non (put S p (insS cS (s.move m ch) d))) (e : mvOf t = none → E cM S) : spSMove cS cM [.ref p, .str t, .bl ch] S Q E
abbrev movesT (z : List Str) : List D := z.map fun s => .str s.cps.toList
theorem niMv {X : Cx} {B : Bs} {N : List Str} {nm : List (Str × NameKind)} {E : EK} {t : List Nat} (G : Gd Γ X N nm k B E) : CmpR Γ X .NotIn (.str t) (.tup movesD) (!(mvOf t).isSome) := by
  have z := niT (u := .str t) (xs := movesD) G rfl rfl
  rwa [in_moves] at z
theorem inVe {X : Cx} {B : Bs} {N : List Str} {nm : List (Str × NameKind)} {E : EK} {m : Mv} (G : Gd Γ X N nm k B E) : CmpR Γ X .In (.str (mvS m)) (.tup vertD) m.vert := by
  have z := inT (u := .str (mvS m)) (xs := vertD) G rfl rfl
  rwa [in_vert] at z
theorem ok_sheet_move {cS cR cM : Addr} (F : FnM Γ "move" "Sheet.move" s_Sheet_move f fd) (K : FSh Γ cS) (h_chosen : Mt Γ cS "chosen" 1 (spSChosen cS)) (h_rows : Mt Γ cS "rows" 6 (spSRows cS cR)) (h_row_at : Fn Γ "row_at" 1 (spRowAt cR)) (h_put : Mt Γ cS "put" 8 (spSPut cS)) (h_mr : Mt Γ cS "move_rows" 9 (spSMoveRows cS)) (h_flat : Mt Γ cS "flat_goal" 3 (spSFlat cS))
    (gMo : GlV Γ "MOVES" (.tup movesD)) (gVe : GlV Γ "VERTICAL" (.tup vertD)) (xM : ExK Γ "BadMove" cM) (f1 : Fld Γ cR "start") (f2 : Fld Γ cR "end") : OkD Γ 10 f fd ["self", "move", "is_choosing"] (spSMove cS cM) := by
  refine okD F sc_Sheet_move nm_Sheet_move (by decide +kernel) (fun ds S Q E h => by cases h; rfl) (fun X B ds Q E G h => ?_)
  have Gg := G.g
  cases h with
  | @mk p d s t ch _ _ _ hS ok q e =>
    have hl := ok.len
    have hw := ok.w2
    have hrl := ok.rlen
    have hne := ok.rne
    have hrow := ok.row_lt
    obtain ⟨hr1, hr2, hr3⟩ := row_in ok
    show wSs Γ X B _ [.val (.ref p), .val (.str t), .val (.bl ch), .no, .no, .no, .no] B.S _
    ktf_call "go"
    refine opI (niMv Gg) ⟨fun hz => ?_, fun hz => ?_⟩
    · have hn : mvOf t = none := by
        cases e : mvOf t with
        | none => rfl
        | some m => rw [e] at hz; cases hz
      ktf_call "go"
      exact e hn
    · obtain ⟨m, hm⟩ : ∃ m, mvOf t = some m := by
        cases e : mvOf t with
        | none => rw [e] at hz; cases hz
        | some m => exact ⟨m, rfl⟩
      have hmt := mvOf_some hm
      subst hmt
      have q := q m rfl
      refine wSs_nil (wSs_cons (wS_tup ?_))
      ktf_call "goE"
      refine ⟨_, _, two_names (i := 3) (j := 4) Gg rfl rfl (by ktf_call "Up") (by ktf_call "Up") (by ktf_call "Kd") (by ktf_call "Kd"), ?_⟩
      ktf_call "go"
      refine opI (inVe Gg) ⟨fun hz => ?_, fun hz => ?_⟩
      · have em : s.move m ch = s.rowsMove (m.many s.height) ch := by
          unfold Sh.move
          rw [if_pos hz]
        rw [em] at q
        refine wSs_cons (wS_expr (wE_meth Gg h_mr (by decide) (eN Gg (by ktf_call "At") (by ktf_call "KdV") ⟨recvS hS rfl, wA_cons (eDrop (wE_dget Gg (wE_disp [(_, _), (_, _), (_, _), (_, _)] ?_)))⟩)))
        refine wPP_s ?_
        ktf_call "go"
        refine wPP_s ?_
        ktf_call "go"
        refine wPP_s ?_
        ktf_call "go"
        refine wPP_s ?_
        ktf_call "go"
        refine wPP_nil ⟨(show (4 : Nat) ≤ 15 by decide), fun r hr1 hr2 => ?_⟩
        ktf_call "go"
        refine ⟨r, _, .inr ⟨(mvS m).toArray⟩, .int (m.many s.height), rfl, put_same, ?_, ?_, r, _, _, hr1, hr1, rfl, ?_⟩
        · show D.str (mvS m) = D.str (mvS m).toArray.toList
          simp
        · cases m <;> first | (exfalso; revert hz; decide) | rfl | (rw [show (0 : Int) - ((s.height : Nat) : Int) = -((s.height : Nat) : Int) by omega]; rfl)
        · ktf_call "go"
          refine spSMoveRows.mk hS ok ?_
          ktf_call "go"
          exact q
      · have ok0 := ok.nowish
        have hR : Sh.R { s with wish := none } = s.R := rfl
        ktf_call "go"
        refine spRowAt.mk (R := s.R) hne (by omega) ?_
        refine subRows (R := s.R) Gg hrow ?_
        ktf_call "go"
        refine ⟨fun hz2 => ?_, fun hz2 => ?_⟩
        · rw [Bool.or_eq_true, decide_eq_true_eq, decide_eq_true_eq] at hz2
          rcases hz2 with e1 | e1
          · subst e1
            ktf_call "go"
            refine ⟨fun _ => ?_, fun z => absurd rfl (of_decide_eq_false z)⟩
            ktf_call "go"
            refine spPut' put_same ok0 (by show (rowD0 s.R s.row).1 ≤ s.now.length; omega) ?_
            ktf_call "go"
            try simp only [put_put]
            exact q
          · subst e1
            ktf_call "go"
            refine ⟨fun z => ?_, fun _ => ?_⟩
            · have := of_decide_eq_true z
              cases this
            ktf_call "go"
            refine spPut' put_same ok0 (by show (rowD0 s.R s.row).2.1 ≤ s.now.length; omega) ?_
            ktf_call "go"
            try simp only [put_put]
            exact q
        · rw [Bool.or_eq_false_iff, decide_eq_false_iff_not, decide_eq_false_iff_not] at hz2
          obtain ⟨n1, n2⟩ := hz2
          have hlh := lohi ok
          have fin : ∀ s1 : Sh, s1 = (if (m = .left ∨ m = .right) ∧ s.lo < s.hi ∧ ch = false then Sh.put { s with wish := none } (if m = .left then s.lo else s.hi) false false else Sh.put { s with wish := none } (flatG s.now s.caret m) false ch) → Q .non (put B.S p (insS cS s1 d)) := fun s1 e => by
            have em : s.move m ch = s1 := by
              rw [e]
              unfold Sh.move
              rw [if_neg (by rw [hz]; decide)]
              dsimp only
              rw [if_neg (fun z => n1 z.symm), if_neg (fun z => n2 z.symm)]
            rw [← em]
            exact q
          refine wSs_cons (wS_if (wT_p (z := (decide (Mv.left = m) || decide (Mv.right = m)) && (decide (((s.lo : Nat) : Int) < ((s.hi : Nat) : Int)) && !ch)) (pT_W (pW_and (fun _ hq => ?t1) fun _ => pW_and (fun _ hq => ?t2) fun _ => pW_and1 (pT_not fun _ hq => ?t3))) ⟨fun hz3 => ?y1, fun hz3 => ?n1⟩))
          case t1 =>
            refine wT_cmp ?_
            ktf_call "goE"
            exact hq
          case t2 =>
            refine wT_cmp ?_
            ktf_call "goE"
            exact hq
          case t3 =>
            ktf_call "go"
            exact hq
          case y1 =>
            rw [Bool.and_eq_true, Bool.and_eq_true, Bool.or_eq_true, decide_eq_true_eq, decide_eq_true_eq, decide_eq_true_eq, Bool.not_eq_true'] at hz3
            obtain ⟨z1, z2, z3⟩ := hz3
            have hc : (m = .left ∨ m = .right) ∧ s.lo < s.hi ∧ ch = false := ⟨z1.imp Eq.symm Eq.symm, by omega, z3⟩
            rw [if_pos hc] at fin
            rcases z1 with e1 | e1
            · subst e1
              ktf_call "go"
              refine ⟨fun _ => ?_, fun z => absurd rfl (of_decide_eq_false z)⟩
              ktf_call "go"
              refine spPut' put_same ok0 (by show s.lo ≤ s.now.length; omega) ?_
              ktf_call "go"
              try simp only [put_put]
              exact fin _ rfl
            · subst e1
              ktf_call "go"
              refine ⟨fun z => ?_, fun _ => ?_⟩
              · have := of_decide_eq_true z
                cases this
              ktf_call "go"
              refine spPut' put_same ok0 (by show s.hi ≤ s.now.length; omega) ?_
              ktf_call "go"
              try simp only [put_put]
              exact fin _ rfl
          case n1 =>
            have hc : ¬ ((m = .left ∨ m = .right) ∧ s.lo < s.hi ∧ ch = false) := fun ⟨z1, z2, z3⟩ => by
              have : ((decide (Mv.left = m) || decide (Mv.right = m)) && (decide (((s.lo : Nat) : Int) < ((s.hi : Nat) : Int)) && !ch)) = true := by
                rw [Bool.and_eq_true, Bool.and_eq_true, Bool.or_eq_true, decide_eq_true_eq, decide_eq_true_eq, decide_eq_true_eq, Bool.not_eq_true']
                exact ⟨z1.imp Eq.symm Eq.symm, by omega, z3⟩
              rw [this] at hz3
              cases hz3
            rw [if_neg hc] at fin
            have hfl := flatG_le ok.car m
            ktf_call "go"
            refine spSFlat.mk put_same ok0 hz (fun z => n1 z.symm) (fun z => n2 z.symm) ?_
            ktf_call "go"
            refine spPut' put_same ok0 hfl ?_
            ktf_call "go"
            try simp only [put_put]
            exact fin _ rfl
end Hd

end

section
namespace Hd
open PySem PySem.Spec PyProof.Rows L2 CR
local macro_rules | `(tactic| ktf_call "At") => `(tactic| with_reducible (repeat (first | exact CR.At.hd | apply CR.At.tl)))
local macro_rules | `(tactic| ktf_call "Up") => `(tactic| with_reducible (repeat (first | exact CR.UpF.hd | apply CR.UpF.tl)))
local macro_rules | `(tactic| ktf_call "Kd") => `(tactic| with_reducible (repeat (first | exact CR.Kd.hd | apply CR.Kd.tl)))
local macro_rules | `(tactic| ktf_call "KdV") => `(tactic| first | (refine Or.inl ?_; ktf_call "Kd"; done) | (refine Or.inr (Or.inl ?_); ktf_call "Kd"; done) | (refine Or.inr (Or.inr ?_); ktf_call "Kd"; done))
local macro_rules | `(tactic| ktf_call "KdL") => `(tactic| first | (refine Or.inl ?_; ktf_call "Kd"; done) | (refine Or.inr ?_; ktf_call "Kd"; done))
local macro_rules | `(tactic| ktf_call "side") => `(tactic| first | with_reducible assumption | omega | (simp only [List.length_nil, List.length_cons, List.length_append, List.length_map, List.length_take, List.length_drop]; omega) | decide)
local macro_rules | `(tactic| ktf_call "St") => `(tactic| first | with_reducible assumption | with_reducible exact CR.put_same)
local macro_rules | `(tactic| ktf_call "C") => `(tactic| fail)
local macro_rules | `(tactic| ktf_call "O") => `(tactic| fail)
local macro_rules | `(tactic| ktf_call "E") => `(tactic| first
  | ((with_reducible show CR.wE _ _ _ (.Name _ _) _ _ _); refine CR.eN (by assumption) (by ktf_call "At") (by ktf_call "KdV") ?_)
  | refine CR.wE_int ?_
  | with_reducible refine CR.wE_sp ?_
  | with_reducible refine CR.wE_nl ?_
  | with_reducible refine CR.wE_em ?_
  | refine CR.wE_str ?_
  | refine CR.wE_bool ?_
  | refine CR.wE_none ?_
  | ((with_reducible show CR.wE _ _ _ (.Attribute (.Name _ _) _ _) _ _ _); refine Hd.eSelf (by assumption) (by with_reducible assumption) (by ktf_call "At") (by ktf_call "KdV") (by ktf_call "St") (by with_reducible constructor) ?_)
  | refine CR.wE_bin ?_
  | ((with_reducible show CR.wE _ _ _ (.Call (.Name _ _) _ _ _) _ _ _); refine CR.eCall (by assumption) (by with_reducible assumption) (by first | decide | omega) (by ktf_call "Kd") ?_)
  | (((with_reducible show CR.wE _ _ _ (.Call (.Name _ _) _ _ _) _ _ _); refine CR.eIsX (by assumption) (by ktf_call "Kd") (by with_reducible assumption) ?_))
  | ((with_reducible show CR.wE _ _ _ (.Call (.Name _ _) _ _ _) _ _ _); refine CR.eBltS (by assumption) (by with_reducible constructor) (by ktf_call "Kd") (by with_reducible assumption) ?_)
  | ((with_reducible show CR.wE _ _ _ (.Call (.Name _ _) _ _ _) _ _ _); refine CR.eBtyS (by assumption) (by with_reducible constructor) (by ktf_call "Kd") (by with_reducible assumption) ?_)
  | ((with_reducible show CR.wE _ _ _ (.Name _ _) _ _ _); refine CR.eGlob (by assumption) (by with_reducible assumption) (by ktf_call "Kd") ?_)
  | refine CR.wE_cmp ?_
  | refine CR.eChain ?_
  | refine CR.wE_slice ?_
  | refine CR.wE_subS ?_
  | refine CR.wE_tup ?_
  | refine CR.wE_lst ?_
  | refine CR.wE_neg ?_
  | refine CR.wE_if ?_
  | ((with_reducible show CR.wE _ _ _ (.Call (.Attribute _ _ _) _ _ _) _ _ _); refine CR.wE_meth0 (by assumption) (by with_reducible assumption) (by first | decide | omega) ?_)
  | ((with_reducible show CR.wE _ _ _ (.Call (.Attribute _ _ _) _ _ _) _ _ _); refine CR.wE_meth (by assumption) (by with_reducible assumption) (by first | decide | omega) ?_)
  | ((with_reducible show CR.wE _ _ _ (.Attribute _ _ _) _ _ _); refine CR.wE_fld (by assumption) ?_)
  | with_reducible refine CR.put2E ?_)
local macro_rules | `(tactic| ktf_call "T") => `(tactic| first
  | refine CR.wT_cmp ?_
  | refine CR.tChain ?_
  | refine CR.wT_not ?_
  | refine CR.wT_val (by assumption) ?_)
local macro_rules | `(tactic| ktf_call "S") => `(tactic| first
  | refine CR.wS_ret ?_
  | refine CR.wS_if ?_
  | ((with_reducible show CR.wS _ _ _ (.Assign [.Attribute _ _ _] _ _) _ _ _); refine Hd.sSelf (by assumption) (by with_reducible assumption) (by ktf_call "At") (by ktf_call "KdV") ?_)
  | ((with_reducible show CR.wS _ _ _ (.Assign [.Name _ _] (.List _ _) _) _ _ _); refine CR.sOwn (es := []) (by assumption) (by ktf_call "Up") (by ktf_call "KdL") ?_)
  | ((with_reducible show CR.wS _ _ _ (.Expr (.Call (.Attribute _ _ _) _ _ _) _) _ _ _); refine CR.sApp (by assumption) (by ktf_call "At") (by ktf_call "Up") (by ktf_call "KdV") ?_)
  | ((with_reducible show CR.wS _ _ _ (.Expr (.Call (.Attribute _ _ _) _ _ _) _) _ _ _); refine CR.sExt (by assumption) (by ktf_call "At") (by ktf_call "Up") (by ktf_call "KdV") ?_)
  | ((with_reducible show CR.wS _ _ _ (.Assign [.Name _ _] _ _) _ _ _); refine CR.sSet (by assumption) (by ktf_call "Up") (by ktf_call "KdL") ?_)
  | ((with_reducible show CR.wS _ _ _ (.Raise _ _ _) _ _ _); refine CR.sRaise (by assumption) (by with_reducible assumption) (by ktf_call "Kd") ?_)
  | refine CR.wS_expr ?_
  | refine CR.wS_pass ?_
  | refine CR.wS_retN ?_)
local macro_rules | `(tactic| ktf_call "SS") => `(tactic| first
  | with_reducible refine CR.put2S ?_
  | refine CR.wSs_cons ?_
  | refine CR.wSs_nil ?_)
local macro_rules | `(tactic| ktf_call "OB") => `(tactic| first
  | ((with_reducible show CR.BltS _ _ _ _ [.str _] _); with_reducible refine CR.bltSR (CR.lenS (by ktf_call "side")) ?_) | ((with_reducible show CR.BltS _ _ _ _ [.lst _] _); with_reducible refine CR.bltSR (CR.lenL (by assumption)) ?_) | ((with_reducible show CR.BltS _ _ _ _ [.tup _] _); with_reducible refine CR.bltSR (CR.lenT (by assumption)) ?_)
  | ((with_reducible show CR.BltS _ _ _ _ [.ref _] _); with_reducible refine CR.lenR (by with_reducible assumption) (by ktf_call "St") ?_)
  | with_reducible refine CR.bltSR (CR.min2N (by assumption)) ?_ | with_reducible refine CR.bltSR (CR.max2N (by assumption)) ?_
  | with_reducible refine CR.bltSR (CR.ordS) ?_ | with_reducible refine CR.bltSR (CR.absI) ?_ | with_reducible refine CR.bltSR (CR.max2 (by assumption)) ?_ | with_reducible refine CR.bltSR (CR.min2 (by assumption)) ?_
  | with_reducible refine CR.bltSR (CR.copyL (by assumption)) ?_
  | with_reducible refine CR.bltSR (CR.intI) ?_ | with_reducible refine CR.bltSR (CR.intB) ?_)
local macro_rules | `(tactic| ktf_call "OS") => `(tactic| first
  | ((with_reducible show CR.SubS _ _ _ (.str _) _ _); with_reducible refine CR.subSR (CR.subSn (by ktf_call "side") (by ktf_call "side")) ?_) | ((with_reducible show CR.SubS _ _ _ (.str _) _ _); with_reducible refine CR.subSR (CR.subSi (by ktf_call "side") (by ktf_call "side") (by ktf_call "side")) ?_) | ((with_reducible show CR.SubS _ _ _ (.lst _) _ _); with_reducible refine CR.subSR (CR.subLn (by assumption) (by ktf_call "side")) ?_) | ((with_reducible show CR.SubS _ _ _ (.tup _) _ _); with_reducible refine CR.subSR (CR.subTn (by assumption) (by ktf_call "side")) ?_))
local macro_rules | `(tactic| ktf_call "OA") => `(tactic| first
  | with_reducible refine CR.opI (CR.addI) ?_ | with_reducible refine CR.opI (CR.subI) ?_ | ((with_reducible show ∃ z, CR.BinR _ _ _ (.str _) _ z ∧ _); with_reducible refine CR.opI (CR.addS (by ktf_call "side")) ?_)
  | ((with_reducible show ∃ z, CR.BinR _ _ .Mult _ _ z ∧ _); refine CR.opI (CR.mulA (by ktf_call "side") (by ktf_call "side")) ?_) | ((with_reducible show ∃ z, CR.BinR _ _ .FloorDiv _ _ z ∧ _); refine CR.opI (CR.divA (by ktf_call "side") (by ktf_call "side")) ?_) | ((with_reducible show ∃ z, CR.BinR _ _ .Mod _ _ z ∧ _); refine CR.opI (CR.modI (by ktf_call "side")) ?_))
local macro_rules | `(tactic| ktf_call "OC") => `(tactic| first
  | with_reducible refine CR.opI (CR.ltI) ?_ | with_reducible refine CR.opI (CR.leI) ?_ | with_reducible refine CR.opI (CR.gtI) ?_ | with_reducible refine CR.opI (CR.geI) ?_ | with_reducible refine CR.opI (CR.eqI) ?_ | with_reducible refine CR.opI (CR.neI) ?_
  | with_reducible refine CR.opI (CR.eqS) ?_ | with_reducible refine CR.opI (CR.neS) ?_ | with_reducible refine CR.opI (CR.isN) ?_ | with_reducible refine CR.opI (CR.notN) ?_ | with_reducible refine CR.opI (CR.inC) ?_ | with_reducible refine CR.opI (CR.leS) ?_)
local macro_rules | `(tactic| ktf_call "OL") => `(tactic| first
  | ((with_reducible show ∃ z, CR.SlcR _ _ (.str _) (some _) (some _) z ∧ _); with_reducible refine CR.opI (CR.slcN (by ktf_call "side") (by ktf_call "side") (by ktf_call "side")) ?_)
  | ((with_reducible show ∃ z, CR.SlcR _ _ (.str _) none _ z ∧ _); with_reducible refine CR.opI (CR.slcTo (by ktf_call "side") (by ktf_call "side")) ?_) | ((with_reducible show ∃ z, CR.SlcR _ _ (.str _) _ none z ∧ _); with_reducible refine CR.opI (CR.slcFrom (by ktf_call "side") (by ktf_call "side")) ?_) | ((with_reducible show ∃ z, CR.SlcR _ _ (.str _) _ _ z ∧ _); with_reducible refine CR.opI (CR.slcS (by ktf_call "side")) ?_) | with_reducible refine CR.opI (CR.slcL (by assumption)) ?_)
local macro_rules | `(tactic| ktf_call "AA") => `(tactic| first | refine CR.wA_nil ?_ | refine CR.wA_cons ?_ | with_reducible refine CR.put2A ?_)
local macro_rules | `(tactic| ktf_call "M") => `(tactic| first
  | ((with_reducible show CR.Recv _ _ _ _ ∧ _); with_reducible refine And.intro (Hd.recvS (by ktf_call "St") (by with_unfolding_all rfl)) ?_)
  | ((with_reducible show ∃ s d s', _ ∧ Hd.ShW s _ _ s' ∧ _); with_reducible refine Hd.shwO (by ktf_call "St") (by with_reducible constructor) ?_)
  | with_reducible refine CR.fldO (by with_reducible assumption) (by with_unfolding_all rfl) ?_
  | ((with_reducible show ∃ C' fs' d', ((∃ a, CR.D.ref _ = CR.D.ref a ∧ _) ∨ _) ∧ _); with_reducible refine CR.fldR (by ktf_call "St") (by with_reducible assumption) (by with_unfolding_all rfl) ?_)
  | with_reducible refine ⟨_, CR.TruD.bl _, ?_⟩
  | ((with_reducible show @LE.le _ _ _ _ ∧ _); with_reducible refine CR.and_le (by ktf_call "side") ?_) | ((with_reducible show @LT.lt _ _ _ _ ∧ _); with_reducible refine CR.and_lt (by ktf_call "side") ?_)
  | ((with_reducible apply CR.pureI); focus (intro Q q; ktf_call "go"; exact q))
  | with_reducible refine ⟨_, _, _, _, rfl, by assumption, by assumption, ?_⟩
  | refine CR.wP_none ?_ | (refine CR.wP_some ?_) | refine CR.opI rfl ?_)
local macro_rules | `(tactic| ktf_call "one") => `(tactic| first
  | (refine CR.isE ?_; ktf_call "E")
  | (refine CR.isA ?_; ktf_call "AA")
  | (refine CR.isBlt ?_; ktf_call "OB")
  | (refine CR.isSub ?_; ktf_call "OS")
  | (refine CR.isBin ?_; ktf_call "OA")
  | (refine CR.isCmp ?_; first | ktf_call "O" | ktf_call "OC")
  | (refine CR.isSlc ?_; ktf_call "OL"))
local macro_rules | `(tactic| ktf_call "goE") => `(tactic| repeat (first | ktf_call "one" | ktf_call "C" | ktf_call "M"))
local macro_rules | `(tactic| ktf_call "go") => `(tactic| repeat (first | (refine CR.isSs ?_; ktf_call "SS") | (refine CR.isS ?_; first | with_reducible refine CR.put2s ?_ | ktf_call "S") | ktf_call "one" | (refine CR.isT ?_; first | with_reducible refine CR.put2T ?_ | ktf_call "T") | ktf_call "C" | ktf_call "M"))
local macro_rules | `(tactic| ktf_call ("bz", $h:ident)) => `(tactic| simp only [Bool.and_eq_true, Bool.or_eq_true, Bool.not_eq_true', Bool.not_eq_false', decide_eq_true_eq, decide_eq_false_iff_not, Bool.and_eq_false_iff, Bool.or_eq_false_iff, Int.ofNat_lt, Int.ofNat_le, Int.natCast_inj, CR.s_blank, CR.s_nl, CR.s_empty, CR.str_one] at $h:ident)

variable {Γ : Wd} {k : Nat} {f : Addr} {fd : FuncData}
abbrev mkD (ms : List (List Nat × Nat)) : List (Key × D) := ms.map fun m => ((.inr ⟨m.1.toArray⟩ : Key), D.int (m.2 : Nat))
inductive spCarried : FnS
  | mk {o a b n : Nat} {S : Sto} {Q : D → Sto → Prop} {E : Addr → Sto → Prop} (h : a ≤ b) (q : Q (.int ((carry a b n o : Nat) : Int)) S) : spCarried [.int (o : Nat), .int (a : Nat), .int (b : Nat), .int (n : Nat)] S Q E
theorem ok_carried (F : FnP Γ "carried" s_carried f fd) : OkD Γ 1 f fd ["offset", "first", "last", "many"] spCarried := by
  refine okD F sc_carried nm_carried (by decide +kernel) (fun ds S Q E h => by cases h; rfl) (fun X B ds Q E G h => ?_)
  have Gg := G.g
  cases h with
  | @mk o a b n _ _ _ h q =>
    show wSs Γ X B _ [.val (.int (o : Nat)), .val (.int (a : Nat)), .val (.int (b : Nat)), .val (.int (n : Nat))] B.S _
    ktf_call "go"
    refine ⟨fun hz => ?_, fun hz => ?_⟩
    · ktf_call ("bz", hz)
      ktf_call "go"
      unfold carry at q
      rw [if_pos hz] at q
      exact q
    · ktf_call ("bz", hz)
      ktf_call "go"
      refine ⟨fun hy => ?_, fun hy => ?_⟩
      · ktf_call ("bz", hy)
        ktf_call "go"
        unfold carry at q
        rw [if_neg hz, if_pos hy] at q
        exact q
      · ktf_call ("bz", hy)
        ktf_call "go"
        unfold carry at q
        rw [if_neg hz, if_neg hy] at q
        rw [show ((o : Nat) : Int) - (((b : Nat) : Int) - ((a : Nat) : Int)) + ((n : Nat) : Int) = ((o - (b - a) + n : Nat) : Int) by omega]
        exact q
theorem mkD_cons (m : List Nat × Nat) (M : List (List Nat × Nat)) : mkD (m :: M) = (.inr ⟨m.1.toArray⟩, .int (m.2 : Nat)) :: mkD M := rfl
theorem key_inj {y z : List Nat} : ((.inr ⟨y.toArray⟩ : Key) = .inr ⟨z.toArray⟩) ↔ y = z := ⟨fun h => by
  injection h with h
  injection h with h
  exact List.toArray_inj h, fun h => by rw [h]⟩
theorem val_mk {y : List Nat} {o : Nat} {M2 : List (List Nat × Nat)} : ∀ {M1 : List (List Nat × Nat)}, y ∉ M1.map (·.1) → valD (mkD (M1 ++ (y, o) :: M2)) (.inr ⟨y.toArray⟩) = some (.int (o : Nat))
  | [], _ => by
    unfold valD
    rw [List.nil_append, mkD_cons, List.find?_cons, decide_eq_true (show _ = _ from rfl)]
    rfl
  | m :: M1, h => by
    have h1 : m.1 ≠ y := fun z => h (by rw [List.map_cons, z]; exact List.mem_cons_self)
    have h2 : y ∉ M1.map (·.1) := fun z => h (List.mem_cons_of_mem _ z)
    have ih := val_mk (M2 := M2) (o := o) h2
    unfold valD at ih ⊢
    rw [List.cons_append, mkD_cons, List.find?_cons, decide_eq_false (fun z => h1 (key_inj.mp z))]
    exact ih
theorem map_no {y : List Nat} {v : D} : ∀ {M : List (List Nat × Nat)}, y ∉ M.map (·.1) → ((mkD M).map fun kv => if kv.1 = (.inr ⟨y.toArray⟩ : Key) then (kv.1, v) else kv) = mkD M
  | [], _ => rfl
  | m :: M, h => by
    have h1 : m.1 ≠ y := fun z => h (by rw [List.map_cons, z]; exact List.mem_cons_self)
    rw [mkD_cons, List.map_cons, map_no fun z => h (List.mem_cons_of_mem _ z), if_neg (fun z => h1 (key_inj.mp z))]
theorem put_mk {y : List Nat} {o v : Nat} {M1 M2 : List (List Nat × Nat)} (h1 : y ∉ M1.map (·.1)) (h2 : y ∉ M2.map (·.1)) : putKD (mkD (M1 ++ (y, o) :: M2)) (.inr ⟨y.toArray⟩) (.int (v : Nat)) = mkD (M1 ++ (y, v) :: M2) := by
  unfold putKD
  rw [if_pos]
  · unfold mkD
    rw [List.map_append, List.map_append, List.map_append, List.map_cons, List.map_cons, List.map_cons]
    have e1 := map_no (v := .int (v : Nat)) h1
    have e2 := map_no (v := .int (v : Nat)) h2
    unfold mkD at e1 e2
    rw [e1, e2, if_pos rfl]
  · rw [List.any_eq_true]
    exact ⟨(.inr ⟨y.toArray⟩, .int (o : Nat)), by unfold mkD; rw [List.map_append, List.map_cons]; exact List.mem_append_right _ List.mem_cons_self, decide_eq_true rfl⟩
abbrev putM (cS : Addr) (S : Sto) (p d : Addr) (s : Sh) : Sto := put (put S d (.dct (mkD s.marks))) p (insS cS s d)
structure _root_.CR.Sh.Mk (s : Sh) : Prop where
  nd : (s.marks.map (·.1)).Nodup
  few : s.marks.length < 1000
inductive spSBetween (cS : Addr) : FnS
  | mk {p d : Addr} {s : Sh} {a b : Nat} {new : List Nat} {S : Sto} {Q : D → Sto → Prop} {E : Addr → Sto → Prop} (hS : S p = some (insS cS s d)) (hD : S d = some (.dct (mkD s.marks))) (hm : s.Mk) (h1 : a ≤ b) (h2 : b ≤ s.now.length) (h3 : s.now.length ≤ 5000) (h4 : new.length ≤ 5000)
      (q : Q .non (putM cS S p d (s.between a b new))) : spSBetween cS [.ref p, .int (a : Nat), .int (b : Nat), .str new] S Q E
local macro_rules | `(tactic| ktf_call "C") => `(tactic| first | refine spSChosen.mk (by ktf_call "St") ?_ | refine spCarried.mk (by ktf_call "side") ?_)
theorem ok_sheet_between {cS : Addr} (F : FnM Γ "set_between" "Sheet.set_between" s_Sheet_set_between f fd) (K : FSh Γ cS) (h_carried : Fn Γ "carried" 1 spCarried) (b_list : Γ.mg "list" = none) (b_len : Γ.mg "len" = none) : OkD Γ 2 f fd ["self", "first", "last", "new"] (spSBetween cS) := by
  refine okD F sc_Sheet_set_between nm_Sheet_set_between (by decide +kernel) (fun ds S Q E h => by cases h; rfl) (fun X B ds Q E G h => ?_)
  have Gg := G.g
  cases h with
  | @mk p d s a b new _ _ _ hS hD hm h1 h2 h3 h4 q =>
    have hpd : p ≠ d := fun z => by
      rw [z, hD] at hS
      cases hS
    show wSs Γ X B _ [.val (.ref p), .val (.int (a : Nat)), .val (.int (b : Nat)), .val (.str new), .no] B.S _
    ktf_call "go"
    have hS1 : (put B.S p (insS cS { s with now := s.now.take a ++ new ++ s.now.drop b } d)) d = some (.dct (mkD s.marks)) := by rw [put_ne hpd.symm]; exact hD
    refine wS_for Gg [4] (wI_lst Gg (eListKeys Gg (by ktf_call "Kd") b_list ?_))
    ktf_call "go"
    refine ⟨d, _, rfl, hS1, _, rfl, ?_⟩
    rw [show ((mkD s.marks).map fun kv => keyD kv.1) = (s.marks.map (·.1)).map D.str by
      unfold mkD
      rw [List.map_map, List.map_map]
      apply List.map_congr_left
      intro m _
      show D.str m.1.toArray.toList = D.str m.1
      simp]
    refine forQ (g := D.str) (fun pre ρ S => (∃ s4, ρ = [.val (.ref p), .val (.int (a : Nat)), .val (.int (b : Nat)), .val (.str new), s4]) ∧ S = put (put B.S p (insS cS { s with now := s.now.take a ++ new ++ s.now.drop b } d)) d (.dct (mkD (((s.marks.take pre.length).map fun m => (m.1, carry a b new.length m.2)) ++ s.marks.drop pre.length)))) ⟨⟨_, rfl⟩, ?_⟩ (fun y pre post ρ' S' hxs hW => ?_) (fun ρ' S' hW => ?_)
    · exact (put_self hS1).symm
    · obtain ⟨⟨s4, rfl⟩, rfl⟩ := hW
      have hlt : pre.length < s.marks.length := by
        have := congrArg List.length hxs
        rw [List.length_map, List.length_append, List.length_cons] at this
        omega
      have hsp := List.drop_eq_getElem_cons hlt
      obtain ⟨⟨y', o⟩, hm0⟩ : ∃ x, s.marks[pre.length]'hlt = x := ⟨_, rfl⟩
      have hy : y' = y := by
        have e := congrArg (fun l => l[pre.length]?) hxs
        simp only [List.getElem?_map, List.getElem?_eq_getElem hlt, hm0] at e
        rw [List.getElem?_append_right (Nat.le_refl _), Nat.sub_self] at e
        exact Option.some.inj e
      subst hy
      rw [hm0] at hsp
      have hall : s.marks = s.marks.take pre.length ++ (y', o) :: s.marks.drop (pre.length + 1) := by rw [← hsp, List.take_append_drop]
      have hnd := hm.nd
      rw [hall, List.map_append, List.map_cons, List.nodup_append] at hnd
      obtain ⟨hn1, hn2, hn3⟩ := hnd
      have n1 : y' ∉ ((s.marks.take pre.length).map fun m => (m.1, carry a b new.length m.2)).map (·.1) := fun z => by
        rw [List.map_map] at z
        exact hn3 y' z y' List.mem_cons_self rfl
      have n2 : y' ∉ (s.marks.drop (pre.length + 1)).map (·.1) := (List.nodup_cons.mp hn2).1
      have hv := val_mk (o := o) (M2 := s.marks.drop (pre.length + 1)) n1
      have hput := put_mk (o := o) (v := carry a b new.length o) n1 n2
      have hfew : (mkD (((s.marks.take pre.length).map fun m => (m.1, carry a b new.length m.2)) ++ (y', o) :: s.marks.drop (pre.length + 1))).length < 1000 := by
        have := hm.few
        have e := congrArg List.length hall
        simp only [List.length_append, List.length_cons, List.length_map] at e ⊢
        omega
      rw [hsp]
      generalize hAA : ((s.marks.take pre.length).map fun m => (m.1, carry a b new.length m.2)) = A1 at *
      have hself : (put (put B.S p (insS cS { s with now := s.now.take a ++ new ++ s.now.drop b } d)) d (.dct (mkD (A1 ++ (y', o) :: s.marks.drop (pre.length + 1))))) p = some (insS cS { s with now := s.now.take a ++ new ++ s.now.drop b } d) := by rw [put_ne hpd, put_same]
      refine ⟨_, gNm (i := 4) Gg rfl (by ktf_call "Kd") (by decide), ?_⟩
      show wSs Γ X B _ [_, _, _, _, .val (.str y')] _ _
      refine wSs_cons (sDictW Gg (eCall Gg h_carried (by decide) (by ktf_call "Kd") (wA_cons (wE_dget Gg ?_))))
      ktf_call "go"
      refine ⟨d, _, .inr ⟨y'.toArray⟩, _, rfl, put_same, by show D.str y' = D.str y'.toArray.toList; simp, hv, ?_⟩
      ktf_call "go"
      refine ⟨d, _, .inr ⟨y'.toArray⟩, rfl, put_same, by show D.str y' = D.str y'.toArray.toList; simp, hfew, ?_⟩
      rw [hput]
      ktf_call "go"
      refine ⟨⟨⟨_, rfl⟩, ?_⟩⟩
      rw [← hAA, List.length_append, List.length_singleton, List.take_succ, List.getElem?_eq_getElem hlt, hm0, List.map_append]
      simp
    · obtain ⟨⟨s4, rfl⟩, rfl⟩ := hW
      rw [List.length_map, List.take_length, List.drop_length, List.append_nil]
      have hself : (put (put B.S p (insS cS { s with now := s.now.take a ++ new ++ s.now.drop b } d)) d (.dct (mkD (s.marks.map fun m => (m.1, carry a b new.length m.2))))) p = some (insS cS { s with now := s.now.take a ++ new ++ s.now.drop b } d) := by rw [put_ne hpd, put_same]
      ktf_call "go"
      rw [put_comm hpd, put_put]
      exact q
end Hd

end

section
namespace Hd
open PySem PySem.Spec PyProof.Rows L2 CR
local macro_rules | `(tactic| ktf_call "At") => `(tactic| with_reducible (repeat (first | exact CR.At.hd | apply CR.At.tl)))
local macro_rules | `(tactic| ktf_call "Up") => `(tactic| with_reducible (repeat (first | exact CR.UpF.hd | apply CR.UpF.tl)))
local macro_rules | `(tactic| ktf_call "Kd") => `(tactic| with_reducible (repeat (first | exact CR.Kd.hd | apply CR.Kd.tl)))
local macro_rules | `(tactic| ktf_call "KdV") => `(tactic| first | (refine Or.inl ?_; ktf_call "Kd"; done) | (refine Or.inr (Or.inl ?_); ktf_call "Kd"; done) | (refine Or.inr (Or.inr ?_); ktf_call "Kd"; done))
local macro_rules | `(tactic| ktf_call "KdL") => `(tactic| first | (refine Or.inl ?_; ktf_call "Kd"; done) | (refine Or.inr ?_; ktf_call "Kd"; done))
local macro_rules | `(tactic| ktf_call "side") => `(tactic| first | with_reducible assumption | omega | (simp only [List.length_nil, List.length_cons, List.length_append, List.length_map, List.length_take, List.length_drop]; omega) | decide)
local macro_rules | `(tactic| ktf_call "St") => `(tactic| first | with_reducible assumption | with_reducible exact CR.put_same)
local macro_rules | `(tactic| ktf_call "C") => `(tactic| fail)
local macro_rules | `(tactic| ktf_call "O") => `(tactic| fail)
local macro_rules | `(tactic| ktf_call "E") => `(tactic| first
  | ((with_reducible show CR.wE _ _ _ (.Name _ _) _ _ _); refine CR.eN (by assumption) (by ktf_call "At") (by ktf_call "KdV") ?_)
  | refine CR.wE_int ?_
  | with_reducible refine CR.wE_sp ?_
  | with_reducible refine CR.wE_nl ?_
  | with_reducible refine CR.wE_em ?_
  | refine CR.wE_str ?_
  | refine CR.wE_bool ?_
  | refine CR.wE_none ?_
  | ((with_reducible show CR.wE _ _ _ (.Attribute (.Name _ _) _ _) _ _ _); refine Hd.eSelf (by assumption) (by with_reducible assumption) (by ktf_call "At") (by ktf_call "KdV") (by ktf_call "St") (by with_reducible constructor) ?_)
  | refine CR.wE_bin ?_
  | ((with_reducible show CR.wE _ _ _ (.Call (.Name _ _) _ _ _) _ _ _); refine CR.eCall (by assumption) (by with_reducible assumption) (by first | decide | omega) (by ktf_call "Kd") ?_)
  | (((with_reducible show CR.wE _ _ _ (.Call (.Name _ _) _ _ _) _ _ _); refine CR.eIsX (by assumption) (by ktf_call "Kd") (by with_reducible assumption) ?_))
  | ((with_reducible show CR.wE _ _ _ (.Call (.Name _ _) _ _ _) _ _ _); refine CR.eBltS (by assumption) (by with_reducible constructor) (by ktf_call "Kd") (by with_reducible assumption) ?_)
  | ((with_reducible show CR.wE _ _ _ (.Call (.Name _ _) _ _ _) _ _ _); refine CR.eBtyS (by assumption) (by with_reducible constructor) (by ktf_call "Kd") (by with_reducible assumption) ?_)
  | ((with_reducible show CR.wE _ _ _ (.Name _ _) _ _ _); refine CR.eGlob (by assumption) (by with_reducible assumption) (by ktf_call "Kd") ?_)
  | refine CR.wE_cmp ?_
  | refine CR.eChain ?_
  | refine CR.wE_slice ?_
  | refine CR.wE_subS ?_
  | refine CR.wE_tup ?_
  | refine CR.wE_lst ?_
  | refine CR.wE_neg ?_
  | refine CR.wE_if ?_
  | ((with_reducible show CR.wE _ _ _ (.Call (.Attribute _ _ _) _ _ _) _ _ _); refine CR.wE_meth0 (by assumption) (by with_reducible assumption) (by first | decide | omega) ?_)
  | ((with_reducible show CR.wE _ _ _ (.Call (.Attribute _ _ _) _ _ _) _ _ _); refine CR.wE_meth (by assumption) (by with_reducible assumption) (by first | decide | omega) ?_)
  | ((with_reducible show CR.wE _ _ _ (.Attribute _ _ _) _ _ _); refine CR.wE_fld (by assumption) ?_)
  | with_reducible refine CR.put2E ?_)
local macro_rules | `(tactic| ktf_call "T") => `(tactic| first
  | refine CR.wT_cmp ?_
  | refine CR.tChain ?_
  | refine CR.wT_not ?_
  | refine CR.wT_val (by assumption) ?_)
local macro_rules | `(tactic| ktf_call "S") => `(tactic| first
  | refine CR.wS_ret ?_
  | refine CR.wS_if ?_
  | ((with_reducible show CR.wS _ _ _ (.Assign [.Attribute _ _ _] _ _) _ _ _); refine Hd.sSelf (by assumption) (by with_reducible assumption) (by ktf_call "At") (by ktf_call "KdV") ?_)
  | ((with_reducible show CR.wS _ _ _ (.Assign [.Name _ _] (.List _ _) _) _ _ _); refine CR.sOwn (es := []) (by assumption) (by ktf_call "Up") (by ktf_call "KdL") ?_)
  | ((with_reducible show CR.wS _ _ _ (.Expr (.Call (.Attribute _ _ _) _ _ _) _) _ _ _); refine CR.sApp (by assumption) (by ktf_call "At") (by ktf_call "Up") (by ktf_call "KdV") ?_)
  | ((with_reducible show CR.wS _ _ _ (.Expr (.Call (.Attribute _ _ _) _ _ _) _) _ _ _); refine CR.sExt (by assumption) (by ktf_call "At") (by ktf_call "Up") (by ktf_call "KdV") ?_)
  | ((with_reducible show CR.wS _ _ _ (.Assign [.Name _ _] _ _) _ _ _); refine CR.sSet (by assumption) (by ktf_call "Up") (by ktf_call "KdL") ?_)
  | ((with_reducible show CR.wS _ _ _ (.Raise _ _ _) _ _ _); refine CR.sRaise (by assumption) (by with_reducible assumption) (by ktf_call "Kd") ?_)
  | refine CR.wS_expr ?_
  | refine CR.wS_pass ?_
  | refine CR.wS_retN ?_)
local macro_rules | `(tactic| ktf_call "SS") => `(tactic| first
  | with_reducible refine CR.put2S ?_
  | refine CR.wSs_cons ?_
  | refine CR.wSs_nil ?_)
local macro_rules | `(tactic| ktf_call "OB") => `(tactic| first
  | ((with_reducible show CR.BltS _ _ _ _ [.str _] _); with_reducible refine CR.bltSR (CR.lenS (by ktf_call "side")) ?_) | ((with_reducible show CR.BltS _ _ _ _ [.lst _] _); with_reducible refine CR.bltSR (CR.lenL (by assumption)) ?_) | ((with_reducible show CR.BltS _ _ _ _ [.tup _] _); with_reducible refine CR.bltSR (CR.lenT (by assumption)) ?_)
  | ((with_reducible show CR.BltS _ _ _ _ [.ref _] _); with_reducible refine CR.lenR (by with_reducible assumption) (by ktf_call "St") ?_)
  | with_reducible refine CR.bltSR (CR.min2N (by assumption)) ?_ | with_reducible refine CR.bltSR (CR.max2N (by assumption)) ?_
  | with_reducible refine CR.bltSR (CR.ordS) ?_ | with_reducible refine CR.bltSR (CR.absI) ?_ | with_reducible refine CR.bltSR (CR.max2 (by assumption)) ?_ | with_reducible refine CR.bltSR (CR.min2 (by assumption)) ?_
  | with_reducible refine CR.bltSR (CR.copyL (by assumption)) ?_
  | with_reducible refine CR.bltSR (CR.intI) ?_ | with_reducible refine CR.bltSR (CR.intB) ?_)
local macro_rules | `(tactic| ktf_call "OS") => `(tactic| first
  | ((with_reducible show CR.SubS _ _ _ (.str _) _ _); with_reducible refine CR.subSR (CR.subSn (by ktf_call "side") (by ktf_call "side")) ?_) | ((with_reducible show CR.SubS _ _ _ (.str _) _ _); with_reducible refine CR.subSR (CR.subSi (by ktf_call "side") (by ktf_call "side") (by ktf_call "side")) ?_) | ((with_reducible show CR.SubS _ _ _ (.lst _) _ _); with_reducible refine CR.subSR (CR.subLn (by assumption) (by ktf_call "side")) ?_) | ((with_reducible show CR.SubS _ _ _ (.tup _) _ _); with_reducible refine CR.subSR (CR.subTn (by assumption) (by ktf_call "side")) ?_))
local macro_rules | `(tactic| ktf_call "OA") => `(tactic| first
  | with_reducible refine CR.opI (CR.addI) ?_ | with_reducible refine CR.opI (CR.subI) ?_ | ((with_reducible show ∃ z, CR.BinR _ _ _ (.str _) _ z ∧ _); with_reducible refine CR.opI (CR.addS (by ktf_call "side")) ?_)
  | ((with_reducible show ∃ z, CR.BinR _ _ .Mult _ _ z ∧ _); refine CR.opI (CR.mulA (by ktf_call "side") (by ktf_call "side")) ?_) | ((with_reducible show ∃ z, CR.BinR _ _ .FloorDiv _ _ z ∧ _); refine CR.opI (CR.divA (by ktf_call "side") (by ktf_call "side")) ?_) | ((with_reducible show ∃ z, CR.BinR _ _ .Mod _ _ z ∧ _); refine CR.opI (CR.modI (by ktf_call "side")) ?_))
local macro_rules | `(tactic| ktf_call "OC") => `(tactic| first
  | with_reducible refine CR.opI (CR.ltI) ?_ | with_reducible refine CR.opI (CR.leI) ?_ | with_reducible refine CR.opI (CR.gtI) ?_ | with_reducible refine CR.opI (CR.geI) ?_ | with_reducible refine CR.opI (CR.eqI) ?_ | with_reducible refine CR.opI (CR.neI) ?_
  | with_reducible refine CR.opI (CR.eqS) ?_ | with_reducible refine CR.opI (CR.neS) ?_ | with_reducible refine CR.opI (CR.isN) ?_ | with_reducible refine CR.opI (CR.notN) ?_ | with_reducible refine CR.opI (CR.inC) ?_ | with_reducible refine CR.opI (CR.leS) ?_)
local macro_rules | `(tactic| ktf_call "OL") => `(tactic| first
  | ((with_reducible show ∃ z, CR.SlcR _ _ (.str _) (some _) (some _) z ∧ _); with_reducible refine CR.opI (CR.slcN (by ktf_call "side") (by ktf_call "side") (by ktf_call "side")) ?_)
  | ((with_reducible show ∃ z, CR.SlcR _ _ (.str _) none _ z ∧ _); with_reducible refine CR.opI (CR.slcTo (by ktf_call "side") (by ktf_call "side")) ?_) | ((with_reducible show ∃ z, CR.SlcR _ _ (.str _) _ none z ∧ _); with_reducible refine CR.opI (CR.slcFrom (by ktf_call "side") (by ktf_call "side")) ?_) | ((with_reducible show ∃ z, CR.SlcR _ _ (.str _) _ _ z ∧ _); with_reducible refine CR.opI (CR.slcS (by ktf_call "side")) ?_) | with_reducible refine CR.opI (CR.slcL (by assumption)) ?_)
local macro_rules | `(tactic| ktf_call "AA") => `(tactic| first | refine CR.wA_nil ?_ | refine CR.wA_cons ?_ | with_reducible refine CR.put2A ?_)
local macro_rules | `(tactic| ktf_call "M") => `(tactic| first
  | ((with_reducible show CR.Recv _ _ _ _ ∧ _); with_reducible refine And.intro (Hd.recvS (by ktf_call "St") (by with_unfolding_all rfl)) ?_)
  | ((with_reducible show ∃ s d s', _ ∧ Hd.ShW s _ _ s' ∧ _); with_reducible refine Hd.shwO (by ktf_call "St") (by with_reducible constructor) ?_)
  | with_reducible refine CR.fldO (by with_reducible assumption) (by with_unfolding_all rfl) ?_
  | ((with_reducible show ∃ C' fs' d', ((∃ a, CR.D.ref _ = CR.D.ref a ∧ _) ∨ _) ∧ _); with_reducible refine CR.fldR (by ktf_call "St") (by with_reducible assumption) (by with_unfolding_all rfl) ?_)
  | with_reducible refine ⟨_, CR.TruD.bl _, ?_⟩
  | ((with_reducible show @LE.le _ _ _ _ ∧ _); with_reducible refine CR.and_le (by ktf_call "side") ?_) | ((with_reducible show @LT.lt _ _ _ _ ∧ _); with_reducible refine CR.and_lt (by ktf_call "side") ?_)
  | ((with_reducible apply CR.pureI); focus (intro Q q; ktf_call "go"; exact q))
  | with_reducible refine ⟨_, _, _, _, rfl, by assumption, by assumption, ?_⟩
  | refine CR.wP_none ?_ | (refine CR.wP_some ?_) | refine CR.opI rfl ?_)
local macro_rules | `(tactic| ktf_call "one") => `(tactic| first
  | (refine CR.isE ?_; ktf_call "E")
  | (refine CR.isA ?_; ktf_call "AA")
  | (refine CR.isBlt ?_; ktf_call "OB")
  | (refine CR.isSub ?_; ktf_call "OS")
  | (refine CR.isBin ?_; ktf_call "OA")
  | (refine CR.isCmp ?_; first | ktf_call "O" | ktf_call "OC")
  | (refine CR.isSlc ?_; ktf_call "OL"))
local macro_rules | `(tactic| ktf_call "goE") => `(tactic| repeat (first | ktf_call "one" | ktf_call "C" | ktf_call "M"))
local macro_rules | `(tactic| ktf_call "go") => `(tactic| repeat (first | (refine CR.isSs ?_; ktf_call "SS") | (refine CR.isS ?_; first | with_reducible refine CR.put2s ?_ | ktf_call "S") | ktf_call "one" | (refine CR.isT ?_; first | with_reducible refine CR.put2T ?_ | ktf_call "T") | ktf_call "C" | ktf_call "M"))
local macro_rules | `(tactic| ktf_call ("bz", $h:ident)) => `(tactic| simp only [Bool.and_eq_true, Bool.or_eq_true, Bool.not_eq_true', Bool.not_eq_false', decide_eq_true_eq, decide_eq_false_iff_not, Bool.and_eq_false_iff, Bool.or_eq_false_iff, Int.ofNat_lt, Int.ofNat_le, Int.natCast_inj, CR.s_blank, CR.s_nl, CR.s_empty, CR.str_one] at $h:ident)

variable {Γ : Wd} {k : Nat} {f : Addr} {fd : FuncData}
local macro_rules | `(tactic| ktf_call "C") => `(tactic| first | refine spSChosen.mk (by ktf_call "St") ?_ | refine spIsText.mk (by ktf_call "side") ?_)
theorem ne_ins {cS p d : Addr} {s : Sh} {kvs : List (Key × D)} {S : Sto} (hS : S p = some (insS cS s d)) (hD : S d = some (.dct kvs)) : p ≠ d := fun z => by
  rw [z, hD] at hS
  cases hS
theorem putM_p {cS p d : Addr} {s : Sh} {S : Sto} : putM cS S p d s p = some (insS cS s d) := put_same
theorem putM_d {cS p d : Addr} {s : Sh} {S : Sto} (h : p ≠ d) : putM cS S p d s d = some (.dct (mkD s.marks)) := (put_ne h.symm).trans put_same
theorem putM_put {cS p d : Addr} {s s' : Sh} {S : Sto} (hm : s'.marks = s.marks) : put (putM cS S p d s) p (insS cS s' d) = putM cS S p d s' := by
  unfold putM
  rw [put_put, hm]
theorem putM_putM {cS p d : Addr} {s s' : Sh} {S : Sto} (h : p ≠ d) : putM cS (putM cS S p d s) p d s' = putM cS S p d s' := by
  unfold putM
  rw [put_comm h, put_put, put_put]
theorem between_ok {s : Sh} (ok : s.Ok) {a b : Nat} {new : List Nat} (h : (s.now.take a ++ new ++ s.now.drop b).length ≤ 2000) (hc : s.caret ≤ (s.now.take a ++ new ++ s.now.drop b).length) (ha : s.anchor ≤ (s.now.take a ++ new ++ s.now.drop b).length) : (s.between a b new).Ok := ⟨h, ok.w2, ok.w200, ok.h1, ok.h100, hc, ha, fun w e => by cases e⟩
theorem between_mk {s : Sh} (hm : s.Mk) {a b : Nat} {new : List Nat} : (s.between a b new).Mk := by
  refine ⟨?_, by show (s.marks.map _).length < 1000; rw [List.length_map]; exact hm.few⟩
  show ((s.marks.map fun m => (m.1, carry a b new.length m.2)).map (·.1)).Nodup
  rw [List.map_map]
  exact hm.nd
inductive spSChange (cS cT : Addr) : FnS
  | mk {p d : Addr} {s : Sh} {a b : Nat} {new : List Nat} {S : Sto} {Q : D → Sto → Prop} {E : Addr → Sto → Prop} (hS : S p = some (insS cS s d)) (hD : S d = some (.dct (mkD s.marks))) (hm : s.Mk) (h1 : a ≤ b) (h2 : b ≤ s.now.length) (h3 : s.now.length ≤ 5000) (h4 : new.length ≤ 5000)
      (q : isTextB (s.now.take a ++ new ++ s.now.drop b) = true → Q .non (putM cS S p d (s.between a b new))) (e : isTextB (s.now.take a ++ new ++ s.now.drop b) = false → E cT S) : spSChange cS cT [.ref p, .int (a : Nat), .int (b : Nat), .str new] S Q E
theorem ok_sheet_change {cS cT : Addr} (F : FnM Γ "change" "Sheet.change" s_Sheet_change f fd) (K : FSh Γ cS) (h_is_text : Fn Γ "is_text" 1 spIsText) (h_between : Mt Γ cS "set_between" 2 (spSBetween cS)) (xT : ExK Γ "BadText" cT) : OkD Γ 3 f fd ["self", "first", "last", "new"] (spSChange cS cT) := by
  refine okD F sc_Sheet_change nm_Sheet_change (by decide +kernel) (fun ds S Q E h => by cases h; rfl) (fun X B ds Q E G h => ?_)
  have Gg := G.g
  cases h with
  | @mk p d s a b new _ _ _ hS hD hm h1 h2 h3 h4 q e =>
    show wSs Γ X B _ [.val (.ref p), .val (.int (a : Nat)), .val (.int (b : Nat)), .val (.str new)] B.S _
    ktf_call "go"
    refine ⟨fun hz => ?_, fun hz => ?_⟩
    · ktf_call ("bz", hz)
      ktf_call "go"
      exact e hz
    · ktf_call ("bz", hz)
      ktf_call "go"
      refine spSBetween.mk hS hD hm h1 h2 h3 h4 ?_
      ktf_call "go"
      exact q hz
inductive spSWrite (cS cT : Addr) : FnS
  | mk {p d : Addr} {s : Sh} {new : List Nat} {S : Sto} {Q : D → Sto → Prop} {E : Addr → Sto → Prop} (hS : S p = some (insS cS s d)) (hD : S d = some (.dct (mkD s.marks))) (ok : s.Ok) (hm : s.Mk) (h4 : new.length ≤ 5000)
      (q : isTextB (s.now.take s.lo ++ new ++ s.now.drop s.hi) = true → Q .non (putM cS S p d (s.write new))) (e : isTextB (s.now.take s.lo ++ new ++ s.now.drop s.hi) = false → E cT S) : spSWrite cS cT [.ref p, .str new] S Q E
theorem write_len {s : Sh} (ok : s.Ok) {new : List Nat} : (s.now.take s.lo ++ new ++ s.now.drop s.hi).length = s.lo + new.length + (s.now.length - s.hi) := by
  have := lohi ok
  rw [List.length_append, List.length_append, List.length_take, List.length_drop]
  omega
theorem write_put0 {s : Sh} (ok : s.Ok) {new : List Nat} (h : isTextB (s.now.take s.lo ++ new ++ s.now.drop s.hi) = true) : ((s.between s.lo s.hi new).put0 (s.lo + new.length) false false).Ok := by
  have hl := isText_len h
  have e := write_len ok (new := new)
  have hc : s.lo + new.length ≤ (s.now.take s.lo ++ new ++ s.now.drop s.hi).length := by omega
  exact ⟨hl, ok.w2, ok.w200, ok.h1, ok.h100, hc, hc, fun w e => by cases e⟩
theorem ok_sheet_write {cS cT : Addr} (F : FnM Γ "write" "Sheet.write" s_Sheet_write f fd) (K : FSh Γ cS) (h_chosen : Mt Γ cS "chosen" 1 (spSChosen cS)) (h_change : Mt Γ cS "change" 3 (spSChange cS cT)) (h_put : Mt Γ cS "put" 8 (spSPut cS)) (b_len : Γ.mg "len" = none) : OkD Γ 9 f fd ["self", "new"] (spSWrite cS cT) := by
  refine okD F sc_Sheet_write nm_Sheet_write (by decide +kernel) (fun ds S Q E h => by cases h; rfl) (fun X B ds Q E G h => ?_)
  have Gg := G.g
  cases h with
  | @mk p d s new _ _ _ hS hD ok hm h4 q e =>
    have hl := ok.len
    obtain ⟨h1, h2⟩ := lohi ok
    have hpd := ne_ins hS hD
    show wSs Γ X B _ [.val (.ref p), .val (.str new), .no, .no] B.S _
    refine wSs_cons (wS_tup ?_)
    ktf_call "goE"
    refine ⟨_, _, two_names (i := 2) (j := 3) Gg rfl rfl (by ktf_call "Up") (by ktf_call "Up") (by ktf_call "Kd") (by ktf_call "Kd"), ?_⟩
    ktf_call "go"
    refine spSChange.mk hS hD hm h1 h2 (by omega) h4 (fun ht => ?_) e
    have hp := putM_p (cS := cS) (p := p) (d := d) (s := s.between s.lo s.hi new) (S := B.S)
    ktf_call "go"
    rw [show ((s.lo : Nat) : Int) + ((new.length : Nat) : Int) = ((s.lo + new.length : Nat) : Int) by omega]
    refine spSPut.mk hp (write_put0 ok ht) ?_
    rw [putM_put (show (Sh.put _ _ _ _).marks = (s.between s.lo s.hi new).marks from rfl)]
    ktf_call "go"
    exact q ht
theorem wS_mono {X : Cx} {B : Bs} {st : Stmt} {ρ : List Sl} {S : Sto} {D1 D2 : Dn} (h : wS Γ X B st ρ S D1) (n : ∀ ρ S, D1.nx ρ S → D2.nx ρ S) (r : ∀ d S, D1.rt d S → D2.rt d S) (b : ∀ ρ S, D1.bk ρ S → D2.bk ρ S) (t : ∀ ρ S, D1.ct ρ S → D2.ct ρ S) : wS Γ X B st ρ S D2 := .mk fun F H σ c => (h.run F H σ c).mono
  ⟨fun _ _ ⟨ρ, S, F1, c, e, q⟩ => ⟨ρ, S, F1, c, e, n _ _ q⟩, fun _ _ ⟨d, S, F1, A, g, rr, q⟩ => ⟨d, S, F1, A, g, rr, r _ _ q⟩, fun _ _ ⟨ρ, S, F1, c, e, q⟩ => ⟨ρ, S, F1, c, e, b _ _ q⟩, fun _ _ ⟨ρ, S, F1, c, e, q⟩ => ⟨ρ, S, F1, c, e, t _ _ q⟩⟩
/-- what stands behind a statement, said in between -/
theorem wSs_cut {X : Cx} {B : Bs} {st : Stmt} {sts : List Stmt} {ρ : List Sl} {S : Sto} {Dd : Dn} (P : List Sl → Sto → Prop) (h1 : wS Γ X B st ρ S { Dd with nx := P }) (h2 : ∀ ρ' S', P ρ' S' → wSs Γ X B sts ρ' S' Dd) : wSs Γ X B (st :: sts) ρ S Dd :=
  wSs_cons (wS_mono h1 h2 (fun _ _ q => q) (fun _ _ q => q) fun _ _ q => q)
inductive spSErase (cS cT cM : Addr) : FnS
  | mk {p d : Addr} {s : Sh} {t : List Nat} {S : Sto} {Q : D → Sto → Prop} {E : Addr → Sto → Prop} (hS : S p = some (insS cS s d)) (hD : S d = some (.dct (mkD s.marks))) (ok : s.Ok) (hm : s.Mk) (ht : isTextB s.now = true)
      (q : ∀ m, t = mvS m → Q .non (putM cS S p d (s.erase m))) (e : mvOf t = none → E cM S) : spSErase cS cT cM [.ref p, .str t] S Q E
theorem move_ok {s : Sh} (ok : s.Ok) (m : Mv) (ch : Bool) : (s.move m ch).Ok := by
  obtain ⟨hr1, hr2, hr3⟩ := row_in ok
  have hlh := lohi ok
  have ok0 := ok.nowish
  unfold Sh.move
  split
  · unfold Sh.rowsMove
    have hwl : s.wish.getD s.col ≤ 100000 := by
      cases e : s.wish with
      | none => have := col_le ok; show s.col ≤ 100000; omega
      | some v => exact ok.wsh v e
    have fin : ∀ s1 : Sh, s1.Ok → Sh.Ok { s1 with wish := some (s.wish.getD s.col) } := fun s1 o => ⟨o.len, o.w2, o.w200, o.h1, o.h100, o.car, o.anc, fun w e => by
      have e2 := Option.some.inj e
      omega⟩
    dsimp only
    refine fin _ ?_
    split
    · exact ok.put _ _ (Nat.zero_le _)
    · split
      · exact ok.put _ _ (Nat.le_refl _)
      · refine ok.put _ _ (nearO_len ok ?_)
        have := ok.rlen
        omega
  · dsimp only
    split
    · exact ok0.put _ _ (by show (rowD0 s.R s.row).1 ≤ s.now.length; omega)
    · split
      · exact ok0.put _ _ (by show (rowD0 s.R s.row).2.1 ≤ s.now.length; omega)
      · split
        · refine ok0.put _ _ ?_
          show (if m = Mv.left then s.lo else s.hi) ≤ s.now.length
          split <;> omega
        · exact ok0.put _ _ (flatG_le ok.car m)
theorem move_now (s : Sh) (m : Mv) (ch : Bool) : (s.move m ch).now = s.now ∧ (s.move m ch).marks = s.marks ∧ (s.move m ch).width = s.width ∧ (s.move m ch).height = s.height := by
  unfold Sh.move Sh.rowsMove
  dsimp only
  split
  · split
    · exact ⟨rfl, rfl, rfl, rfl⟩
    · split <;> exact ⟨rfl, rfl, rfl, rfl⟩
  · split
    · exact ⟨rfl, rfl, rfl, rfl⟩
    · split
      · exact ⟨rfl, rfl, rfl, rfl⟩
      · split <;> exact ⟨rfl, rfl, rfl, rfl⟩
/-- a part of a text is one -/
theorem isText_cut {t : List Nat} (h : isTextB t = true) (a b : Nat) : isTextB (t.take a ++ [] ++ t.drop (max a b)) = true := by
  unfold isTextB at h ⊢
  rw [Bool.and_eq_true] at h ⊢
  obtain ⟨h1, h2⟩ := h
  have h1 := of_decide_eq_true h1
  refine ⟨decide_eq_true ?_, ?_⟩
  · rw [List.length_append, List.length_append, List.length_take, List.length_drop, List.length_nil]
    omega
  · rw [List.all_eq_true] at h2 ⊢
    intro x hx
    rw [List.append_nil] at hx
    rcases List.mem_append.mp hx with z | z
    · exact h2 x (List.mem_of_mem_take z)
    · exact h2 x (List.mem_of_mem_drop z)
theorem isText_cut2 {t : List Nat} (h : isTextB t = true) {a b : Nat} (hab : a ≤ b) : isTextB (t.take a ++ [] ++ t.drop b) = true := by
  have := isText_cut h a b
  rwa [Nat.max_eq_right hab] at this
end Hd

end

section
namespace Hd
open PySem PySem.Spec PyProof.Rows L2 CR
local macro_rules | `(tactic| ktf_call "At") => `(tactic| with_reducible (repeat (first | exact CR.At.hd | apply CR.At.tl)))
local macro_rules | `(tactic| ktf_call "Up") => `(tactic| with_reducible (repeat (first | exact CR.UpF.hd | apply CR.UpF.tl)))
local macro_rules | `(tactic| ktf_call "Kd") => `(tactic| with_reducible (repeat (first | exact CR.Kd.hd | apply CR.Kd.tl)))
local macro_rules | `(tactic| ktf_call "KdV") => `(tactic| first | (refine Or.inl ?_; ktf_call "Kd"; done) | (refine Or.inr (Or.inl ?_); ktf_call "Kd"; done) | (refine Or.inr (Or.inr ?_); ktf_call "Kd"; done))
local macro_rules | `(tactic| ktf_call "KdL") => `(tactic| first | (refine Or.inl ?_; ktf_call "Kd"; done) | (refine Or.inr ?_; ktf_call "Kd"; done))
local macro_rules | `(tactic| ktf_call "side") => `(tactic| first | with_reducible assumption | omega | (simp only [List.length_nil, List.length_cons, List.length_append, List.length_map, List.length_take, List.length_drop]; omega) | decide)
local macro_rules | `(tactic| ktf_call "St") => `(tactic| first | with_reducible assumption | with_reducible exact CR.put_same)
local macro_rules | `(tactic| ktf_call "C") => `(tactic| fail)
local macro_rules | `(tactic| ktf_call "O") => `(tactic| fail)
local macro_rules | `(tactic| ktf_call "E") => `(tactic| first
  | ((with_reducible show CR.wE _ _ _ (.Name _ _) _ _ _); refine CR.eN (by assumption) (by ktf_call "At") (by ktf_call "KdV") ?_)
  | refine CR.wE_int ?_
  | with_reducible refine CR.wE_sp ?_
  | with_reducible refine CR.wE_nl ?_
  | with_reducible refine CR.wE_em ?_
  | refine CR.wE_str ?_
  | refine CR.wE_bool ?_
  | refine CR.wE_none ?_
  | ((with_reducible show CR.wE _ _ _ (.Attribute (.Name _ _) _ _) _ _ _); refine Hd.eSelf (by assumption) (by with_reducible assumption) (by ktf_call "At") (by ktf_call "KdV") (by ktf_call "St") (by with_reducible constructor) ?_)
  | refine CR.wE_bin ?_
  | ((with_reducible show CR.wE _ _ _ (.Call (.Name _ _) _ _ _) _ _ _); refine CR.eCall (by assumption) (by with_reducible assumption) (by first | decide | omega) (by ktf_call "Kd") ?_)
  | (((with_reducible show CR.wE _ _ _ (.Call (.Name _ _) _ _ _) _ _ _); refine CR.eIsX (by assumption) (by ktf_call "Kd") (by with_reducible assumption) ?_))
  | ((with_reducible show CR.wE _ _ _ (.Call (.Name _ _) _ _ _) _ _ _); refine CR.eBltS (by assumption) (by with_reducible constructor) (by ktf_call "Kd") (by with_reducible assumption) ?_)
  | ((with_reducible show CR.wE _ _ _ (.Call (.Name _ _) _ _ _) _ _ _); refine CR.eBtyS (by assumption) (by with_reducible constructor) (by ktf_call "Kd") (by with_reducible assumption) ?_)
  | ((with_reducible show CR.wE _ _ _ (.Name _ _) _ _ _); refine CR.eGlob (by assumption) (by with_reducible assumption) (by ktf_call "Kd") ?_)
  | refine CR.wE_cmp ?_
  | refine CR.eChain ?_
  | refine CR.wE_slice ?_
  | refine CR.wE_subS ?_
  | refine CR.wE_tup ?_
  | refine CR.wE_lst ?_
  | refine CR.wE_neg ?_
  | refine CR.wE_if ?_
  | ((with_reducible show CR.wE _ _ _ (.Call (.Attribute _ _ _) _ _ _) _ _ _); refine CR.wE_meth0 (by assumption) (by with_reducible assumption) (by first | decide | omega) ?_)
  | ((with_reducible show CR.wE _ _ _ (.Call (.Attribute _ _ _) _ _ _) _ _ _); refine CR.wE_meth (by assumption) (by with_reducible assumption) (by first | decide | omega) ?_)
  | ((with_reducible show CR.wE _ _ _ (.Attribute _ _ _) _ _ _); refine CR.wE_fld (by assumption) ?_)
  | with_reducible refine CR.put2E ?_)
local macro_rules | `(tactic| ktf_call "T") => `(tactic| first
  | refine CR.wT_cmp ?_
  | refine CR.tChain ?_
  | refine CR.wT_not ?_
  | refine CR.wT_val (by assumption) ?_)
local macro_rules | `(tactic| ktf_call "S") => `(tactic| first
  | refine CR.wS_ret ?_
  | refine CR.wS_if ?_
  | ((with_reducible show CR.wS _ _ _ (.Assign [.Attribute _ _ _] _ _) _ _ _); refine Hd.sSelf (by assumption) (by with_reducible assumption) (by ktf_call "At") (by ktf_call "KdV") ?_)
  | ((with_reducible show CR.wS _ _ _ (.Assign [.Name _ _] (.List _ _) _) _ _ _); refine CR.sOwn (es := []) (by assumption) (by ktf_call "Up") (by ktf_call "KdL") ?_)
  | ((with_reducible show CR.wS _ _ _ (.Expr (.Call (.Attribute _ _ _) _ _ _) _) _ _ _); refine CR.sApp (by assumption) (by ktf_call "At") (by ktf_call "Up") (by ktf_call "KdV") ?_)
  | ((with_reducible show CR.wS _ _ _ (.Expr (.Call (.Attribute _ _ _) _ _ _) _) _ _ _); refine CR.sExt (by assumption) (by ktf_call "At") (by ktf_call "Up") (by ktf_call "KdV") ?_)
  | ((with_reducible show CR.wS _ _ _ (.Assign [.Name _ _] _ _) _ _ _); refine CR.sSet (by assumption) (by ktf_call "Up") (by ktf_call "KdL") ?_)
  | ((with_reducible show CR.wS _ _ _ (.Raise _ _ _) _ _ _); refine CR.sRaise (by assumption) (by with_reducible assumption) (by ktf_call "Kd") ?_)
  | refine CR.wS_expr ?_
  | refine CR.wS_pass ?_
  | refine CR.wS_retN ?_)
local macro_rules | `(tactic| ktf_call "SS") => `(tactic| first
  | with_reducible refine CR.put2S ?_
  | refine CR.wSs_cons ?_
  | refine CR.wSs_nil ?_)
local macro_rules | `(tactic| ktf_call "OB") => `(tactic| first
  | ((with_reducible show CR.BltS _ _ _ _ [.str _] _); with_reducible refine CR.bltSR (CR.lenS (by ktf_call "side")) ?_) | ((with_reducible show CR.BltS _ _ _ _ [.lst _] _); with_reducible refine CR.bltSR (CR.lenL (by assumption)) ?_) | ((with_reducible show CR.BltS _ _ _ _ [.tup _] _); with_reducible refine CR.bltSR (CR.lenT (by assumption)) ?_)
  | ((with_reducible show CR.BltS _ _ _ _ [.ref _] _); with_reducible refine CR.lenR (by with_reducible assumption) (by ktf_call "St") ?_)
  | with_reducible refine CR.bltSR (CR.min2N (by assumption)) ?_ | with_reducible refine CR.bltSR (CR.max2N (by assumption)) ?_
  | with_reducible refine CR.bltSR (CR.ordS) ?_ | with_reducible refine CR.bltSR (CR.absI) ?_ | with_reducible refine CR.bltSR (CR.max2 (by assumption)) ?_ | with_reducible refine CR.bltSR (CR.min2 (by assumption)) ?_
  | with_reducible refine CR.bltSR (CR.copyL (by assumption)) ?_
  | with_reducible refine CR.bltSR (CR.intI) ?_ | with_reducible refine CR.bltSR (CR.intB) ?_)
local macro_rules | `(tactic| ktf_call "OS") => `(tactic| first
  | ((with_reducible show CR.SubS _ _ _ (.str _) _ _); with_reducible refine CR.subSR (CR.subSn (by ktf_call "side") (by ktf_call "side")) ?_) | ((with_reducible show CR.SubS _ _ _ (.str _) _ _); with_reducible refine CR.subSR (CR.subSi (by ktf_call "side") (by ktf_call "side") (by ktf_call "side")) ?_) | ((with_reducible show CR.SubS _ _ _ (.lst _) _ _); with_reducible refine CR.subSR (CR.subLn (by assumption) (by ktf_call "side")) ?_) | ((with_reducible show CR.SubS _ _ _ (.tup _) _ _); with_reducible refine CR.subSR (CR.subTn (by assumption) (by ktf_call "side")) ?_))
local macro_rules | `(tactic| ktf_call "OA") => `(tactic| first
  | with_reducible refine CR.opI (CR.addI) ?_ | with_reducible refine CR.opI (CR.subI) ?_ | ((with_reducible show ∃ z, CR.BinR _ _ _ (.str _) _ z ∧ _); with_reducible refine CR.opI (CR.addS (by ktf_call "side")) ?_)
  | ((with_reducible show ∃ z, CR.BinR _ _ .Mult _ _ z ∧ _); refine CR.opI (CR.mulA (by ktf_call "side") (by ktf_call "side")) ?_) | ((with_reducible show ∃ z, CR.BinR _ _ .FloorDiv _ _ z ∧ _); refine CR.opI (CR.divA (by ktf_call "side") (by ktf_call "side")) ?_) | ((with_reducible show ∃ z, CR.BinR _ _ .Mod _ _ z ∧ _); refine CR.opI (CR.modI (by ktf_call "side")) ?_))
local macro_rules | `(tactic| ktf_call "OC") => `(tactic| first
  | with_reducible refine CR.opI (CR.ltI) ?_ | with_reducible refine CR.opI (CR.leI) ?_ | with_reducible refine CR.opI (CR.gtI) ?_ | with_reducible refine CR.opI (CR.geI) ?_ | with_reducible refine CR.opI (CR.eqI) ?_ | with_reducible refine CR.opI (CR.neI) ?_
  | with_reducible refine CR.opI (CR.eqS) ?_ | with_reducible refine CR.opI (CR.neS) ?_ | with_reducible refine CR.opI (CR.isN) ?_ | with_reducible refine CR.opI (CR.notN) ?_ | with_reducible refine CR.opI (CR.inC) ?_ | with_reducible refine CR.opI (CR.leS) ?_)
local macro_rules | `(tactic| ktf_call "OL") => `(tactic| first
  | ((with_reducible show ∃ z, CR.SlcR _ _ (.str _) (some _) (some _) z ∧ _); with_reducible refine CR.opI (CR.slcN (by ktf_call "side") (by ktf_call "side") (by ktf_call "side")) ?_)
  | ((with_reducible show ∃ z, CR.SlcR _ _ (.str _) none _ z ∧ _); with_reducible refine CR.opI (CR.slcTo (by ktf_call "side") (by ktf_call "side")) ?_) | ((with_reducible show ∃ z, CR.SlcR _ _ (.str _) _ none z ∧ _); with_reducible refine CR.opI (CR.slcFrom (by ktf_call "side") (by ktf_call "side")) ?_) | ((with_reducible show ∃ z, CR.SlcR _ _ (.str _) _ _ z ∧ _); with_reducible refine CR.opI (CR.slcS (by ktf_call "side")) ?_) | with_reducible refine CR.opI (CR.slcL (by assumption)) ?_)
local macro_rules | `(tactic| ktf_call "AA") => `(tactic| first | refine CR.wA_nil ?_ | refine CR.wA_cons ?_ | with_reducible refine CR.put2A ?_)
local macro_rules | `(tactic| ktf_call "M") => `(tactic| first
  | ((with_reducible show CR.Recv _ _ _ _ ∧ _); with_reducible refine And.intro (Hd.recvS (by ktf_call "St") (by with_unfolding_all rfl)) ?_)
  | ((with_reducible show ∃ s d s', _ ∧ Hd.ShW s _ _ s' ∧ _); with_reducible refine Hd.shwO (by ktf_call "St") (by with_reducible constructor) ?_)
  | with_reducible refine CR.fldO (by with_reducible assumption) (by with_unfolding_all rfl) ?_
  | ((with_reducible show ∃ C' fs' d', ((∃ a, CR.D.ref _ = CR.D.ref a ∧ _) ∨ _) ∧ _); with_reducible refine CR.fldR (by ktf_call "St") (by with_reducible assumption) (by with_unfolding_all rfl) ?_)
  | with_reducible refine ⟨_, CR.TruD.bl _, ?_⟩
  | ((with_reducible show @LE.le _ _ _ _ ∧ _); with_reducible refine CR.and_le (by ktf_call "side") ?_) | ((with_reducible show @LT.lt _ _ _ _ ∧ _); with_reducible refine CR.and_lt (by ktf_call "side") ?_)
  | ((with_reducible apply CR.pureI); focus (intro Q q; ktf_call "go"; exact q))
  | with_reducible refine ⟨_, _, _, _, rfl, by assumption, by assumption, ?_⟩
  | refine CR.wP_none ?_ | (refine CR.wP_some ?_) | refine CR.opI rfl ?_)
local macro_rules | `(tactic| ktf_call "one") => `(tactic| first
  | (refine CR.isE ?_; ktf_call "E")
  | (refine CR.isA ?_; ktf_call "AA")
  | (refine CR.isBlt ?_; ktf_call "OB")
  | (refine CR.isSub ?_; ktf_call "OS")
  | (refine CR.isBin ?_; ktf_call "OA")
  | (refine CR.isCmp ?_; first | ktf_call "O" | ktf_call "OC")
  | (refine CR.isSlc ?_; ktf_call "OL"))
local macro_rules | `(tactic| ktf_call "goE") => `(tactic| repeat (first | ktf_call "one" | ktf_call "C" | ktf_call "M"))
local macro_rules | `(tactic| ktf_call "go") => `(tactic| repeat (first | (refine CR.isSs ?_; ktf_call "SS") | (refine CR.isS ?_; first | with_reducible refine CR.put2s ?_ | ktf_call "S") | ktf_call "one" | (refine CR.isT ?_; first | with_reducible refine CR.put2T ?_ | ktf_call "T") | ktf_call "C" | ktf_call "M"))
local macro_rules | `(tactic| ktf_call ("bz", $h:ident)) => `(tactic| simp only [Bool.and_eq_true, Bool.or_eq_true, Bool.not_eq_true', Bool.not_eq_false', decide_eq_true_eq, decide_eq_false_iff_not, Bool.and_eq_false_iff, Bool.or_eq_false_iff, Int.ofNat_lt, Int.ofNat_le, Int.natCast_inj, CR.s_blank, CR.s_nl, CR.s_empty, CR.str_one] at $h:ident)

variable {Γ : Wd} {k : Nat} {f : Addr} {fd : FuncData}
/-- one sheet beside the town -/
structure W1 (cS : Addr) (S : Sto) (a : Addr) (m : Nat) (p d : Addr) (s : Sh) : Prop where
  t : S a = some (.lst (zs m))
  p : S p = some (insS cS s d)
  d : S d = some (.dct (mkD s.marks))
theorem W1.ne {cS : Addr} {S : Sto} {a : Addr} {m : Nat} {p d : Addr} {s : Sh} (W : W1 cS S a m p d s) : p ≠ d ∧ a ≠ p ∧ a ≠ d := by
  refine ⟨ne_ins W.p W.d, fun z => ?_, fun z => ?_⟩
  · have := W.t
    rw [z, W.p] at this
    cases this
  · have := W.t
    rw [z, W.d] at this
    cases this
theorem W1.sh {cS : Addr} {S : Sto} {a : Addr} {m : Nat} {p d : Addr} {s : Sh} (W : W1 cS S a m p d s) (s' : Sh) : W1 cS (putM cS S p d s') a m p d s' := by
  obtain ⟨n1, n2, n3⟩ := W.ne
  exact ⟨by unfold putM; rw [put_ne n2, put_ne n3]; exact W.t, putM_p, putM_d n1⟩
theorem W1.sh1 {cS : Addr} {S : Sto} {a : Addr} {m : Nat} {p d : Addr} {s s' : Sh} (W : W1 cS S a m p d s) (h : s'.marks = s.marks) : W1 cS (put S p (insS cS s' d)) a m p d s' := by
  obtain ⟨n1, n2, n3⟩ := W.ne
  exact ⟨by rw [put_ne n2]; exact W.t, put_same, by rw [put_ne n1.symm, h]; exact W.d⟩
theorem W1.tw {cS : Addr} {S : Sto} {a : Addr} {m : Nat} {p d : Addr} {s : Sh} (W : W1 cS S a m p d s) (m' : Nat) : W1 cS (put S a (.lst (zs m'))) a m' p d s := by
  obtain ⟨n1, n2, n3⟩ := W.ne
  exact ⟨put_same, by rw [put_ne n2.symm]; exact W.p, by rw [put_ne n3.symm]; exact W.d⟩
/-- a new one beside it -/
theorem W1.new {cS : Addr} {S : Sto} {a : Addr} {m : Nat} {p d q e : Addr} {s s' : Sh} (W : W1 cS S a m p d s) (hq : S q = none) (he : S e = none) (hqe : q ≠ e) : W1 cS (putM cS S q e s') a m p d s ∧ W1 cS (putM cS S q e s') a m q e s' ∧ p ≠ q ∧ d ≠ e ∧ p ≠ e ∧ d ≠ q := by
  have f1 : ∀ {x : Addr} {o : Ob}, S x = some o → x ≠ q ∧ x ≠ e := fun h => ⟨fun z => (by rw [z, hq] at h; cases h), fun z => (by rw [z, he] at h; cases h)⟩
  obtain ⟨a1, a2⟩ := f1 W.t
  obtain ⟨b1, b2⟩ := f1 W.p
  obtain ⟨c1, c2⟩ := f1 W.d
  unfold putM
  exact ⟨⟨by rw [put_ne a1, put_ne a2]; exact W.t, by rw [put_ne b1, put_ne b2]; exact W.p, by rw [put_ne c1, put_ne c2]; exact W.d⟩, ⟨by rw [put_ne a1, put_ne a2]; exact W.t, put_same, by rw [put_ne hqe.symm]; exact put_same⟩, b1, c2, b2, c1⟩
/-- another one stays -/
theorem W1.keep {cS : Addr} {S : Sto} {a : Addr} {m : Nat} {p d q e : Addr} {s s' : Sh} (W : W1 cS S a m p d s) (h : p ≠ q ∧ d ≠ e ∧ p ≠ e ∧ d ≠ q) (V : W1 cS S a m q e s') (s2 : Sh) : W1 cS (putM cS S q e s2) a m p d s := by
  obtain ⟨h1, h2, h3, h4⟩ := h
  obtain ⟨n1, n2, n3⟩ := V.ne
  unfold putM
  exact ⟨by rw [put_ne n2, put_ne n3]; exact W.t, by rw [put_ne h1, put_ne h3]; exact W.p, by rw [put_ne h4, put_ne h2]; exact W.d⟩
theorem W1.keep1 {cS : Addr} {S : Sto} {a : Addr} {m : Nat} {p d q e : Addr} {s s' s2 : Sh} (W : W1 cS S a m p d s) (h : p ≠ q ∧ d ≠ e ∧ p ≠ e ∧ d ≠ q) (V : W1 cS S a m q e s') : W1 cS (put S q (insS cS s2 e)) a m p d s := by
  obtain ⟨h1, h2, h3, h4⟩ := h
  obtain ⟨n1, n2, n3⟩ := V.ne
  exact ⟨by rw [put_ne n2]; exact W.t, by rw [put_ne h1]; exact W.p, by rw [put_ne h4]; exact W.d⟩
theorem eCall0 {X : Cx} {B : Bs} {N : List Str} {nm : List (Str × NameKind)} {E : EK} {ρ : List Sl} {S : Sto} {Q : D → Sto → Prop} {x : Str} {j : Nat} {Φ : FnS} {p pos : Pos} (G : Gd Γ X N nm k B E) (h : Fn Γ x j Φ) (hj : j ≤ k) (hg : Kd nm x .globalImplicit) (ha : Φ [] S Q (fun C S2 => E C ρ S2)) (hdb : (x == ("__debug__" : Str)) = false := by decide) : wE Γ X B (.Call (.Name x p) [] [] pos) ρ S Q :=
  wE_call0 G h hj (hg.lk G.uq) ha hdb
abbrev mvD (m : Mv) : D := .str (mvS m)
inductive spMoves : FnS
  | mk {S : Sto} {Q : D → Sto → Prop} {E : Addr → Sto → Prop} (q : Q (.lst (allMv.map mvD)) S) : spMoves [] S Q E
theorem pick_mv {d : D} (h : d ∈ allMv.map mvD) : ∃ m, d = mvD m := by
  obtain ⟨m, _, e⟩ := List.mem_map.mp h
  exact ⟨m, e.symm⟩
/-- a move by its name -/
theorem mvCall {cS cM p d : Addr} {s : Sh} {t : List Nat} {ch : Bool} {S : Sto} {Q : D → Sto → Prop} {E : Addr → Sto → Prop} (m : Mv) (ht : t = mvS m) (hS : S p = some (insS cS s d)) (ok : s.Ok) (q : Q .non (put S p (insS cS (s.move m ch) d))) : spSMove cS cM [.ref p, .str t, .bl ch] S Q E := by
  subst ht
  exact spSMove.mk hS ok (fun m' e => by have := mvS_inj.mp e; subst this; exact q) (fun z => by rw [mvOf_mv] at z; cases z)
theorem goCall {cS cP p d : Addr} {s : Sh} {o : Nat} {S : Sto} {Q : D → Sto → Prop} {E : Addr → Sto → Prop} (hS : S p = some (insS cS s d)) (ok : s.Ok) (ho : o ≤ s.now.length) (q : Q .non (put S p (insS cS (s.go o) d))) : spSGo cS cP [.ref p, .int (o : Nat)] S Q E :=
  spSGo.mk hS ok (fun n e _ => by obtain rfl : o = n := (by omega); exact q) (fun z => absurd ⟨by omega, by omega⟩ z)
theorem W1.mv {cS : Addr} {S : Sto} {a : Addr} {m : Nat} {p d : Addr} {s : Sh} (W : W1 cS S a m p d s) (mv : Mv) (ch : Bool) : W1 cS (put S p (insS cS (s.move mv ch) d)) a m p d (s.move mv ch) := W.sh1 (move_now s mv ch).2.1
theorem W1.gone {cS : Addr} {S : Sto} {a : Addr} {m : Nat} {p d : Addr} {s : Sh} (W : W1 cS S a m p d s) (o : Nat) : W1 cS (put S p (insS cS (s.go o) d)) a m p d (s.go o) := W.sh1 rfl
/-- a new sheet beside the town -/
theorem W1.mk0 {cS : Addr} {S : Sto} {a : Addr} {m : Nat} {p d : Addr} (s : Sh) (hT : S a = some (.lst (zs m))) (hp : S p = none) (hd : S d = none) (hpd : p ≠ d) : W1 cS (putM cS S p d s) a m p d s := by
  have n1 : a ≠ p := fun z => by rw [z, hp] at hT; cases hT
  have n2 : a ≠ d := fun z => by rw [z, hd] at hT; cases hT
  exact ⟨by unfold putM; rw [put_ne n1, put_ne n2]; exact hT, putM_p, putM_d hpd⟩
theorem initCall {cS cT cZ p : Addr} {t : List Nat} {w h : Int} {S : Sto} {Q : D → Sto → Prop} {E : Addr → Sto → Prop} (hS : S p = none) (ht : isTextB t = true) (hw : 2 ≤ w ∧ w ≤ 200) (hh : 1 ≤ h ∧ h ≤ 100) (q : ∀ d, S d = none → p ≠ d → Q .non (putM cS S p d (Sh.new t w.toNat h.toNat))) : spSInit cS cT cZ [.ref p, .str t, .int w, .int h] (put S p (.ins cS [])) Q E := by
  refine spSInit.mk put_same (by have := isText_len ht; omega) (fun _ _ _ _ _ d hd => ?_) (fun z => by rw [ht] at z; cases z) (fun _ z => absurd ⟨hw.1, hw.2, hh.1, hh.2⟩ z)
  have hpd : p ≠ d := fun z => by
    rw [z, put_same] at hd
    cases hd
  have hd2 : S d = none := by
    rw [put_ne hpd.symm] at hd
    exact hd
  rw [put_comm hpd, put_put]
  exact q d hd2 hpd
end Hd

end

section
namespace Hd
open PySem PySem.Spec PyProof.Rows L2 CR
local macro_rules | `(tactic| ktf_call "At") => `(tactic| with_reducible (repeat (first | exact CR.At.hd | apply CR.At.tl)))
local macro_rules | `(tactic| ktf_call "Up") => `(tactic| with_reducible (repeat (first | exact CR.UpF.hd | apply CR.UpF.tl)))
local macro_rules | `(tactic| ktf_call "Kd") => `(tactic| with_reducible (repeat (first | exact CR.Kd.hd | apply CR.Kd.tl)))
local macro_rules | `(tactic| ktf_call "KdV") => `(tactic| first | (refine Or.inl ?_; ktf_call "Kd"; done) | (refine Or.inr (Or.inl ?_); ktf_call "Kd"; done) | (refine Or.inr (Or.inr ?_); ktf_call "Kd"; done))
local macro_rules | `(tactic| ktf_call "KdL") => `(tactic| first | (refine Or.inl ?_; ktf_call "Kd"; done) | (refine Or.inr ?_; ktf_call "Kd"; done))
local macro_rules | `(tactic| ktf_call "side") => `(tactic| first | with_reducible assumption | omega | (simp only [List.length_nil, List.length_cons, List.length_append, List.length_map, List.length_take, List.length_drop]; omega) | decide)
local macro_rules | `(tactic| ktf_call "St") => `(tactic| first | with_reducible assumption | with_reducible exact CR.put_same)
local macro_rules | `(tactic| ktf_call "C") => `(tactic| fail)
local macro_rules | `(tactic| ktf_call "O") => `(tactic| fail)
local macro_rules | `(tactic| ktf_call "E") => `(tactic| first
  | ((with_reducible show CR.wE _ _ _ (.Name _ _) _ _ _); refine CR.eN (by assumption) (by ktf_call "At") (by ktf_call "KdV") ?_)
  | refine CR.wE_int ?_
  | with_reducible refine CR.wE_sp ?_
  | with_reducible refine CR.wE_nl ?_
  | with_reducible refine CR.wE_em ?_
  | refine CR.wE_str ?_
  | refine CR.wE_bool ?_
  | refine CR.wE_none ?_
  | ((with_reducible show CR.wE _ _ _ (.Attribute (.Name _ _) _ _) _ _ _); refine Hd.eSelf (by assumption) (by with_reducible assumption) (by ktf_call "At") (by ktf_call "KdV") (by ktf_call "St") (by with_reducible constructor) ?_)
  | refine CR.wE_bin ?_
  | ((with_reducible show CR.wE _ _ _ (.Call (.Name _ _) _ _ _) _ _ _); refine CR.eCall (by assumption) (by with_reducible assumption) (by first | decide | omega) (by ktf_call "Kd") ?_)
  | (((with_reducible show CR.wE _ _ _ (.Call (.Name _ _) _ _ _) _ _ _); refine CR.eIsX (by assumption) (by ktf_call "Kd") (by with_reducible assumption) ?_))
  | ((with_reducible show CR.wE _ _ _ (.Call (.Name _ _) _ _ _) _ _ _); refine CR.eBltS (by assumption) (by with_reducible constructor) (by ktf_call "Kd") (by with_reducible assumption) ?_)
  | ((with_reducible show CR.wE _ _ _ (.Call (.Name _ _) _ _ _) _ _ _); refine CR.eBtyS (by assumption) (by with_reducible constructor) (by ktf_call "Kd") (by with_reducible assumption) ?_)
  | ((with_reducible show CR.wE _ _ _ (.Name _ _) _ _ _); refine CR.eGlob (by assumption) (by with_reducible assumption) (by ktf_call "Kd") ?_)
  | refine CR.wE_cmp ?_
  | refine CR.eChain ?_
  | refine CR.wE_slice ?_
  | refine CR.wE_subS ?_
  | refine CR.wE_tup ?_
  | refine CR.wE_lst ?_
  | refine CR.wE_neg ?_
  | refine CR.wE_if ?_
  | ((with_reducible show CR.wE _ _ _ (.Call (.Attribute _ _ _) _ _ _) _ _ _); refine CR.wE_meth0 (by assumption) (by with_reducible assumption) (by first | decide | omega) ?_)
  | ((with_reducible show CR.wE _ _ _ (.Call (.Attribute _ _ _) _ _ _) _ _ _); refine CR.wE_meth (by assumption) (by with_reducible assumption) (by first | decide | omega) ?_)
  | ((with_reducible show CR.wE _ _ _ (.Attribute _ _ _) _ _ _); refine CR.wE_fld (by assumption) ?_)
  | with_reducible refine CR.put2E ?_)
local macro_rules | `(tactic| ktf_call "T") => `(tactic| first
  | refine CR.wT_cmp ?_
  | refine CR.tChain ?_
  | refine CR.wT_not ?_
  | refine CR.wT_val (by assumption) ?_)
local macro_rules | `(tactic| ktf_call "S") => `(tactic| first
  | refine CR.wS_ret ?_
  | refine CR.wS_if ?_
  | ((with_reducible show CR.wS _ _ _ (.Assign [.Attribute _ _ _] _ _) _ _ _); refine Hd.sSelf (by assumption) (by with_reducible assumption) (by ktf_call "At") (by ktf_call "KdV") ?_)
  | ((with_reducible show CR.wS _ _ _ (.Assign [.Name _ _] (.List _ _) _) _ _ _); refine CR.sOwn (es := []) (by assumption) (by ktf_call "Up") (by ktf_call "KdL") ?_)
  | ((with_reducible show CR.wS _ _ _ (.Expr (.Call (.Attribute _ _ _) _ _ _) _) _ _ _); refine CR.sApp (by assumption) (by ktf_call "At") (by ktf_call "Up") (by ktf_call "KdV") ?_)
  | ((with_reducible show CR.wS _ _ _ (.Expr (.Call (.Attribute _ _ _) _ _ _) _) _ _ _); refine CR.sExt (by assumption) (by ktf_call "At") (by ktf_call "Up") (by ktf_call "KdV") ?_)
  | ((with_reducible show CR.wS _ _ _ (.Assign [.Name _ _] _ _) _ _ _); refine CR.sSet (by assumption) (by ktf_call "Up") (by ktf_call "KdL") ?_)
  | ((with_reducible show CR.wS _ _ _ (.Raise _ _ _) _ _ _); refine CR.sRaise (by assumption) (by with_reducible assumption) (by ktf_call "Kd") ?_)
  | refine CR.wS_expr ?_
  | refine CR.wS_pass ?_
  | refine CR.wS_retN ?_)
local macro_rules | `(tactic| ktf_call "SS") => `(tactic| first
  | with_reducible refine CR.put2S ?_
  | refine CR.wSs_cons ?_
  | refine CR.wSs_nil ?_)
local macro_rules | `(tactic| ktf_call "OB") => `(tactic| first
  | ((with_reducible show CR.BltS _ _ _ _ [.str _] _); with_reducible refine CR.bltSR (CR.lenS (by ktf_call "side")) ?_) | ((with_reducible show CR.BltS _ _ _ _ [.lst _] _); with_reducible refine CR.bltSR (CR.lenL (by assumption)) ?_) | ((with_reducible show CR.BltS _ _ _ _ [.tup _] _); with_reducible refine CR.bltSR (CR.lenT (by assumption)) ?_)
  | ((with_reducible show CR.BltS _ _ _ _ [.ref _] _); with_reducible refine CR.lenR (by with_reducible assumption) (by ktf_call "St") ?_)
  | with_reducible refine CR.bltSR (CR.min2N (by assumption)) ?_ | with_reducible refine CR.bltSR (CR.max2N (by assumption)) ?_
  | with_reducible refine CR.bltSR (CR.ordS) ?_ | with_reducible refine CR.bltSR (CR.absI) ?_ | with_reducible refine CR.bltSR (CR.max2 (by assumption)) ?_ | with_reducible refine CR.bltSR (CR.min2 (by assumption)) ?_
  | with_reducible refine CR.bltSR (CR.copyL (by assumption)) ?_
  | with_reducible refine CR.bltSR (CR.intI) ?_ | with_reducible refine CR.bltSR (CR.intB) ?_)
local macro_rules | `(tactic| ktf_call "OS") => `(tactic| first
  | ((with_reducible show CR.SubS _ _ _ (.str _) _ _); with_reducible refine CR.subSR (CR.subSn (by ktf_call "side") (by ktf_call "side")) ?_) | ((with_reducible show CR.SubS _ _ _ (.str _) _ _); with_reducible refine CR.subSR (CR.subSi (by ktf_call "side") (by ktf_call "side") (by ktf_call "side")) ?_) | ((with_reducible show CR.SubS _ _ _ (.lst _) _ _); with_reducible refine CR.subSR (CR.subLn (by assumption) (by ktf_call "side")) ?_) | ((with_reducible show CR.SubS _ _ _ (.tup _) _ _); with_reducible refine CR.subSR (CR.subTn (by assumption) (by ktf_call "side")) ?_))
local macro_rules | `(tactic| ktf_call "OA") => `(tactic| first
  | with_reducible refine CR.opI (CR.addI) ?_ | with_reducible refine CR.opI (CR.subI) ?_ | ((with_reducible show ∃ z, CR.BinR _ _ _ (.str _) _ z ∧ _); with_reducible refine CR.opI (CR.addS (by ktf_call "side")) ?_)
  | ((with_reducible show ∃ z, CR.BinR _ _ .Mult _ _ z ∧ _); refine CR.opI (CR.mulA (by ktf_call "side") (by ktf_call "side")) ?_) | ((with_reducible show ∃ z, CR.BinR _ _ .FloorDiv _ _ z ∧ _); refine CR.opI (CR.divA (by ktf_call "side") (by ktf_call "side")) ?_) | ((with_reducible show ∃ z, CR.BinR _ _ .Mod _ _ z ∧ _); refine CR.opI (CR.modI (by ktf_call "side")) ?_))
local macro_rules | `(tactic| ktf_call "OC") => `(tactic| first
  | with_reducible refine CR.opI (CR.ltI) ?_ | with_reducible refine CR.opI (CR.leI) ?_ | with_reducible refine CR.opI (CR.gtI) ?_ | with_reducible refine CR.opI (CR.geI) ?_ | with_reducible refine CR.opI (CR.eqI) ?_ | with_reducible refine CR.opI (CR.neI) ?_
  | with_reducible refine CR.opI (CR.eqS) ?_ | with_reducible refine CR.opI (CR.neS) ?_ | with_reducible refine CR.opI (CR.isN) ?_ | with_reducible refine CR.opI (CR.notN) ?_ | with_reducible refine CR.opI (CR.inC) ?_ | with_reducible refine CR.opI (CR.leS) ?_)
local macro_rules | `(tactic| ktf_call "OL") => `(tactic| first
  | ((with_reducible show ∃ z, CR.SlcR _ _ (.str _) (some _) (some _) z ∧ _); with_reducible refine CR.opI (CR.slcN (by ktf_call "side") (by ktf_call "side") (by ktf_call "side")) ?_)
  | ((with_reducible show ∃ z, CR.SlcR _ _ (.str _) none _ z ∧ _); with_reducible refine CR.opI (CR.slcTo (by ktf_call "side") (by ktf_call "side")) ?_) | ((with_reducible show ∃ z, CR.SlcR _ _ (.str _) _ none z ∧ _); with_reducible refine CR.opI (CR.slcFrom (by ktf_call "side") (by ktf_call "side")) ?_) | ((with_reducible show ∃ z, CR.SlcR _ _ (.str _) _ _ z ∧ _); with_reducible refine CR.opI (CR.slcS (by ktf_call "side")) ?_) | with_reducible refine CR.opI (CR.slcL (by assumption)) ?_)
local macro_rules | `(tactic| ktf_call "AA") => `(tactic| first | refine CR.wA_nil ?_ | refine CR.wA_cons ?_ | with_reducible refine CR.put2A ?_)
local macro_rules | `(tactic| ktf_call "M") => `(tactic| first
  | ((with_reducible show CR.Recv _ _ _ _ ∧ _); with_reducible refine And.intro (Hd.recvS (by ktf_call "St") (by with_unfolding_all rfl)) ?_)
  | ((with_reducible show ∃ s d s', _ ∧ Hd.ShW s _ _ s' ∧ _); with_reducible refine Hd.shwO (by ktf_call "St") (by with_reducible constructor) ?_)
  | with_reducible refine CR.fldO (by with_reducible assumption) (by with_unfolding_all rfl) ?_
  | ((with_reducible show ∃ C' fs' d', ((∃ a, CR.D.ref _ = CR.D.ref a ∧ _) ∨ _) ∧ _); with_reducible refine CR.fldR (by ktf_call "St") (by with_reducible assumption) (by with_unfolding_all rfl) ?_)
  | with_reducible refine ⟨_, CR.TruD.bl _, ?_⟩
  | ((with_reducible show @LE.le _ _ _ _ ∧ _); with_reducible refine CR.and_le (by ktf_call "side") ?_) | ((with_reducible show @LT.lt _ _ _ _ ∧ _); with_reducible refine CR.and_lt (by ktf_call "side") ?_)
  | ((with_reducible apply CR.pureI); focus (intro Q q; ktf_call "go"; exact q))
  | with_reducible refine ⟨_, _, _, _, rfl, by assumption, by assumption, ?_⟩
  | refine CR.wP_none ?_ | (refine CR.wP_some ?_) | refine CR.opI rfl ?_)
local macro_rules | `(tactic| ktf_call "one") => `(tactic| first
  | (refine CR.isE ?_; ktf_call "E")
  | (refine CR.isA ?_; ktf_call "AA")
  | (refine CR.isBlt ?_; ktf_call "OB")
  | (refine CR.isSub ?_; ktf_call "OS")
  | (refine CR.isBin ?_; ktf_call "OA")
  | (refine CR.isCmp ?_; first | ktf_call "O" | ktf_call "OC")
  | (refine CR.isSlc ?_; ktf_call "OL"))
local macro_rules | `(tactic| ktf_call "goE") => `(tactic| repeat (first | ktf_call "one" | ktf_call "C" | ktf_call "M"))
local macro_rules | `(tactic| ktf_call "go") => `(tactic| repeat (first | (refine CR.isSs ?_; ktf_call "SS") | (refine CR.isS ?_; first | with_reducible refine CR.put2s ?_ | ktf_call "S") | ktf_call "one" | (refine CR.isT ?_; first | with_reducible refine CR.put2T ?_ | ktf_call "T") | ktf_call "C" | ktf_call "M"))
local macro_rules | `(tactic| ktf_call ("bz", $h:ident)) => `(tactic| simp only [Bool.and_eq_true, Bool.or_eq_true, Bool.not_eq_true', Bool.not_eq_false', decide_eq_true_eq, decide_eq_false_iff_not, Bool.and_eq_false_iff, Bool.or_eq_false_iff, Int.ofNat_lt, Int.ofNat_le, Int.natCast_inj, CR.s_blank, CR.s_nl, CR.s_empty, CR.str_one] at $h:ident)

variable {Γ : Wd} {k : Nat} {f : Addr} {fd : FuncData}
local macro_rules | `(tactic| ktf_call "C") => `(tactic| refine CR.sOwn (by assumption) (by ktf_call "Up") (by ktf_call "KdL") ?_)
/-- one class of errors among the four, told by its word -/
structure KindOf (Γ : Wd) (cT cS cP cM C : Addr) (z1 z2 z3 z4 : Bool) : Prop where
  h1 : IsX Γ C (.ref cT) z1
  h2 : IsX Γ C (.ref cS) z2
  h3 : IsX Γ C (.ref cP) z3
  h4 : IsX Γ C (.ref cM) z4
  h5 : IsX Γ C (.ty "ValueError") true
theorem indexB {X : Cx} {B : Bs} {N : List Str} {nm : List (Str × NameKind)} {E : EK} (zs : List Bool) (i : Nat) (G : Gd Γ X N nm k B E) (h1 : zs[i]? = some true) (h2 : (zs.take i).any id = false) : MtdR Γ X "list.index" (.lst (zs.map .bl)) [.bl true] (.int ((i : Nat) : Int)) :=
  indexD (w := .bl true) G rfl (by rw [List.all_map]; exact List.all_eq_true.mpr fun _ _ => rfl) (by rw [List.getElem?_map, h1]; rfl) rfl (fun m z hm hz => by
    rw [List.getElem?_map] at hz
    cases e : zs[m]? with
    | none => rw [e] at hz; cases hz
    | some b =>
      rw [e] at hz
      have hz2 := Option.some.inj hz
      subst hz2
      have hb : b = false := by
        have := List.any_eq_false.mp h2 b (List.mem_iff_getElem?.mpr ⟨m, by rw [List.getElem?_take_of_lt hm]; exact e⟩)
        simpa using this
      rw [hb]
      rfl)
inductive spRef (Γ : Wd) (cT cS cP cM : Addr) : FnS
  | text {a C : Addr} {S : Sto} {Q : D → Sto → Prop} {E : Addr → Sto → Prop} (h : S a = some (.exc C)) (hk : KindOf Γ cT cS cP cM C true false false false) (q : Q (.tup [.str (Str.ofString "refused").cps.toList, .str (Str.ofString "text").cps.toList]) S) : spRef Γ cT cS cP cM [.ref a] S Q E
  | size {a C : Addr} {S : Sto} {Q : D → Sto → Prop} {E : Addr → Sto → Prop} (h : S a = some (.exc C)) (hk : KindOf Γ cT cS cP cM C false true false false) (q : Q (.tup [.str (Str.ofString "refused").cps.toList, .str (Str.ofString "size").cps.toList]) S) : spRef Γ cT cS cP cM [.ref a] S Q E
  | place {a C : Addr} {S : Sto} {Q : D → Sto → Prop} {E : Addr → Sto → Prop} (h : S a = some (.exc C)) (hk : KindOf Γ cT cS cP cM C false false true false) (q : Q (.tup [.str (Str.ofString "refused").cps.toList, .str (Str.ofString "place").cps.toList]) S) : spRef Γ cT cS cP cM [.ref a] S Q E
  | move {a C : Addr} {S : Sto} {Q : D → Sto → Prop} {E : Addr → Sto → Prop} (h : S a = some (.exc C)) (hk : KindOf Γ cT cS cP cM C false false false true) (q : Q (.tup [.str (Str.ofString "refused").cps.toList, .str (Str.ofString "move").cps.toList]) S) : spRef Γ cT cS cP cM [.ref a] S Q E
end Hd

end

section
namespace Hd
open PySem PySem.Spec PyProof.Rows L2 CR
variable {Γ : Wd} {k : Nat} {f : Addr} {fd : FuncData}
abbrev refW (s : Str) : D := .tup [.str (Str.ofString "refused").cps.toList, .str s.cps.toList]
theorem pu_rw {s : Str} (h : ∀ c ∈ s.cps.toList, c < 128) : Pu 1 (refW s) := .tup fun x hx => by
  simp only [List.mem_cons, List.not_mem_nil, or_false] at hx
  rcases hx with e | e
  · subst e; exact .str (by decide +kernel)
  · subst e; exact .str h
theorem subT_0 {X : Cx} {B : Bs} {N : List Str} {nm : List (Str × NameKind)} {E : EK} {S : Sto} {x : D} {r : List D} {P : D → Sto → Prop} (G : Gd Γ X N nm k B E) (q : P x S) : SubS Γ X S (.tup (x :: r)) (.int 0) P := subSR (subTn (n := 0) G (by simp)) q
theorem subT_1 {X : Cx} {B : Bs} {N : List Str} {nm : List (Str × NameKind)} {E : EK} {S : Sto} {x y : D} {r : List D} {P : D → Sto → Prop} (G : Gd Γ X N nm k B E) (q : P y S) : SubS Γ X S (.tup (x :: y :: r)) (.int 1) P := subSR (subTn (n := 1) G (by simp)) q
theorem subT_2 {X : Cx} {B : Bs} {N : List Str} {nm : List (Str × NameKind)} {E : EK} {S : Sto} {x y z : D} {r : List D} {P : D → Sto → Prop} (G : Gd Γ X N nm k B E) (q : P z S) : SubS Γ X S (.tup (x :: y :: z :: r)) (.int 2) P := subSR (subTn (n := 2) G (by simp)) q
theorem subL_0 {X : Cx} {B : Bs} {N : List Str} {nm : List (Str × NameKind)} {E : EK} {S : Sto} {x : D} {r : List D} {P : D → Sto → Prop} (G : Gd Γ X N nm k B E) (q : P x S) : SubS Γ X S (.lst (x :: r)) (.int 0) P := subSR (subLn (n := 0) G (by simp)) q
theorem atI_neg1 {xs : List D} {x : D} : L2.atI (xs ++ [x]) (-1) = some x := by
  unfold L2.atI
  have e : ixN (xs ++ [x]).length (-1) = some xs.length := by
    rw [List.length_append, List.length_singleton]
    unfold ixN
    simp
    constructor <;> omega
  rw [e]
  simp
end Hd

end

section
namespace Hd
open PySem PySem.Spec PyProof.Rows L2 CR
local macro_rules | `(tactic| ktf_call "At") => `(tactic| with_reducible (repeat (first | exact CR.At.hd | apply CR.At.tl)))
local macro_rules | `(tactic| ktf_call "Up") => `(tactic| with_reducible (repeat (first | exact CR.UpF.hd | apply CR.UpF.tl)))
local macro_rules | `(tactic| ktf_call "Kd") => `(tactic| with_reducible (repeat (first | exact CR.Kd.hd | apply CR.Kd.tl)))
local macro_rules | `(tactic| ktf_call "KdV") => `(tactic| first | (refine Or.inl ?_; ktf_call "Kd"; done) | (refine Or.inr (Or.inl ?_); ktf_call "Kd"; done) | (refine Or.inr (Or.inr ?_); ktf_call "Kd"; done))
local macro_rules | `(tactic| ktf_call "KdL") => `(tactic| first | (refine Or.inl ?_; ktf_call "Kd"; done) | (refine Or.inr ?_; ktf_call "Kd"; done))
local macro_rules | `(tactic| ktf_call "side") => `(tactic| first | with_reducible assumption | omega | (simp only [List.length_nil, List.length_cons, List.length_append, List.length_map, List.length_take, List.length_drop]; omega) | decide)
local macro_rules | `(tactic| ktf_call "St") => `(tactic| first | with_reducible assumption | with_reducible exact CR.put_same | (with_reducible refine (CR.put_ne (by with_reducible assumption)).trans ?_; with_reducible assumption))
local macro_rules | `(tactic| ktf_call "C") => `(tactic| fail)
local macro_rules | `(tactic| ktf_call "O") => `(tactic| fail)
local macro_rules | `(tactic| ktf_call "E") => `(tactic| first
  | ((with_reducible show CR.wE _ _ _ (.Name _ _) _ _ _); refine CR.eN (by assumption) (by ktf_call "At") (by ktf_call "KdV") ?_)
  | refine CR.wE_int ?_
  | with_reducible refine CR.wE_sp ?_
  | with_reducible refine CR.wE_nl ?_
  | with_reducible refine CR.wE_em ?_
  | refine CR.wE_str ?_
  | refine CR.wE_bool ?_
  | refine CR.wE_none ?_
  | ((with_reducible show CR.wE _ _ _ (.Attribute (.Name _ _) _ _) _ _ _); refine Hd.eSelf (by assumption) (by with_reducible assumption) (by ktf_call "At") (by ktf_call "KdV") (by ktf_call "St") (by with_reducible constructor) ?_)
  | refine CR.wE_bin ?_
  | ((with_reducible show CR.wE _ _ _ (.Call (.Name _ _) _ _ _) _ _ _); refine CR.eCall (by assumption) (by with_reducible assumption) (by first | decide | omega) (by ktf_call "Kd") ?_)
  | ((with_reducible show CR.wE _ _ _ (.Call (.Name _ _) _ _ _) _ _ _); refine CR.eNew (by assumption) (by with_reducible assumption) (by first | decide | omega) (by ktf_call "Kd") ?_)
  | (((with_reducible show CR.wE _ _ _ (.Call (.Name _ _) _ _ _) _ _ _); refine CR.eIsX (by assumption) (by ktf_call "Kd") (by with_reducible assumption) ?_))
  | ((with_reducible show CR.wE _ _ _ (.Call (.Name _ _) _ _ _) _ _ _); refine CR.eBltS (by assumption) (by with_reducible constructor) (by ktf_call "Kd") (by with_reducible assumption) ?_)
  | ((with_reducible show CR.wE _ _ _ (.Call (.Name _ _) _ _ _) _ _ _); refine CR.eBtyS (by assumption) (by with_reducible constructor) (by ktf_call "Kd") (by with_reducible assumption) ?_)
  | ((with_reducible show CR.wE _ _ _ (.Name _ _) _ _ _); refine CR.eGlob (by assumption) (by with_reducible assumption) (by ktf_call "Kd") ?_)
  | refine CR.wE_cmp ?_
  | refine CR.eChain ?_
  | refine CR.wE_slice ?_
  | refine CR.wE_subS ?_
  | refine CR.wE_tup ?_
  | refine CR.wE_lst ?_
  | refine CR.wE_neg ?_
  | refine CR.wE_if ?_
  | ((with_reducible show CR.wE _ _ _ (.Call (.Attribute _ _ _) _ _ _) _ _ _); refine CR.wE_meth0 (by assumption) (by with_reducible assumption) (by first | decide | omega) ?_)
  | ((with_reducible show CR.wE _ _ _ (.Call (.Attribute _ _ _) _ _ _) _ _ _); refine CR.wE_meth (by assumption) (by with_reducible assumption) (by first | decide | omega) ?_)
  | ((with_reducible show CR.wE _ _ _ (.Attribute _ _ _) _ _ _); refine CR.wE_fld (by assumption) ?_)
  | with_reducible refine CR.put2E ?_)
local macro_rules | `(tactic| ktf_call "T") => `(tactic| first
  | refine CR.wT_cmp ?_
  | refine CR.tChain ?_
  | refine CR.wT_not ?_
  | refine CR.wT_val (by assumption) ?_)
local macro_rules | `(tactic| ktf_call "S") => `(tactic| first
  | refine CR.wS_ret ?_
  | refine CR.wS_if ?_
  | ((with_reducible show CR.wS _ _ _ (.Assign [.Attribute _ _ _] _ _) _ _ _); refine Hd.sSelf (by assumption) (by with_reducible assumption) (by ktf_call "At") (by ktf_call "KdV") ?_)
  | ((with_reducible show CR.wS _ _ _ (.Assign [.Name _ _] (.List _ _) _) _ _ _); refine CR.sOwn (es := []) (by assumption) (by ktf_call "Up") (by ktf_call "KdL") ?_)
  | ((with_reducible show CR.wS _ _ _ (.Expr (.Call (.Attribute _ _ _) _ _ _) _) _ _ _); refine CR.sApp (by assumption) (by ktf_call "At") (by ktf_call "Up") (by ktf_call "KdV") ?_)
  | ((with_reducible show CR.wS _ _ _ (.Expr (.Call (.Attribute _ _ _) _ _ _) _) _ _ _); refine CR.sExt (by assumption) (by ktf_call "At") (by ktf_call "Up") (by ktf_call "KdV") ?_)
  | ((with_reducible show CR.wS _ _ _ (.Assign [.Name _ _] _ _) _ _ _); refine CR.sSet (by assumption) (by ktf_call "Up") (by ktf_call "KdL") ?_)
  | ((with_reducible show CR.wS _ _ _ (.Raise _ _ _) _ _ _); refine CR.sRaise (by assumption) (by with_reducible assumption) (by ktf_call "Kd") ?_)
  | refine CR.wS_expr ?_
  | refine CR.wS_pass ?_
  | refine CR.wS_retN ?_)
local macro_rules | `(tactic| ktf_call "SS") => `(tactic| first
  | with_reducible refine CR.put2S ?_
  | refine CR.wSs_cons ?_
  | refine CR.wSs_nil ?_)
local macro_rules | `(tactic| ktf_call "OB") => `(tactic| first
  | ((with_reducible show CR.BltS _ _ _ _ [.str _] _); with_reducible refine CR.bltSR (CR.lenS (by ktf_call "side")) ?_) | ((with_reducible show CR.BltS _ _ _ _ [.lst _] _); with_reducible refine CR.bltSR (CR.lenL (by assumption)) ?_) | ((with_reducible show CR.BltS _ _ _ _ [.tup _] _); with_reducible refine CR.bltSR (CR.lenT (by assumption)) ?_)
  | ((with_reducible show CR.BltS _ _ _ _ [.ref _] _); with_reducible refine CR.lenR (by with_reducible assumption) (by ktf_call "St") ?_)
  | with_reducible refine CR.bltSR (CR.min2N (by assumption)) ?_ | with_reducible refine CR.bltSR (CR.max2N (by assumption)) ?_
  | with_reducible refine CR.bltSR (CR.ordS) ?_ | with_reducible refine CR.bltSR (CR.absI) ?_ | with_reducible refine CR.bltSR (CR.max2 (by assumption)) ?_ | with_reducible refine CR.bltSR (CR.min2 (by assumption)) ?_
  | with_reducible refine CR.bltSR (CR.copyL (by assumption)) ?_
  | with_reducible refine CR.bltSR (CR.intI) ?_ | with_reducible refine CR.bltSR (CR.intB) ?_)
local macro_rules | `(tactic| ktf_call "OS") => `(tactic| first
  | ((with_reducible show CR.SubS _ _ _ (.str _) _ _); with_reducible refine CR.subSR (CR.subSn (by ktf_call "side") (by ktf_call "side")) ?_) | ((with_reducible show CR.SubS _ _ _ (.str _) _ _); with_reducible refine CR.subSR (CR.subSi (by ktf_call "side") (by ktf_call "side") (by ktf_call "side")) ?_) | ((with_reducible show CR.SubS _ _ _ (.lst _) _ _); with_reducible refine CR.subSR (CR.subLn (by assumption) (by ktf_call "side")) ?_) | ((with_reducible show CR.SubS _ _ _ (.tup _) _ _); with_reducible refine CR.subSR (CR.subTn (by assumption) (by ktf_call "side")) ?_))
local macro_rules | `(tactic| ktf_call "OA") => `(tactic| first
  | with_reducible refine CR.opI (CR.addI) ?_ | with_reducible refine CR.opI (CR.subI) ?_ | ((with_reducible show ∃ z, CR.BinR _ _ _ (.str _) _ z ∧ _); with_reducible refine CR.opI (CR.addS (by ktf_call "side")) ?_)
  | ((with_reducible show ∃ z, CR.BinR _ _ .Mult _ _ z ∧ _); refine CR.opI (CR.mulA (by ktf_call "side") (by ktf_call "side")) ?_) | ((with_reducible show ∃ z, CR.BinR _ _ .FloorDiv _ _ z ∧ _); refine CR.opI (CR.divA (by ktf_call "side") (by ktf_call "side")) ?_) | ((with_reducible show ∃ z, CR.BinR _ _ .Mod _ _ z ∧ _); refine CR.opI (CR.modI (by ktf_call "side")) ?_))
local macro_rules | `(tactic| ktf_call "OC") => `(tactic| first
  | with_reducible refine CR.opI (CR.ltI) ?_ | with_reducible refine CR.opI (CR.leI) ?_ | with_reducible refine CR.opI (CR.gtI) ?_ | with_reducible refine CR.opI (CR.geI) ?_ | with_reducible refine CR.opI (CR.eqI) ?_ | with_reducible refine CR.opI (CR.neI) ?_
  | with_reducible refine CR.opI (CR.eqS) ?_ | with_reducible refine CR.opI (CR.neS) ?_ | with_reducible refine CR.opI (CR.isN) ?_ | with_reducible refine CR.opI (CR.notN) ?_ | with_reducible refine CR.opI (CR.inC) ?_ | with_reducible refine CR.opI (CR.leS) ?_)
local macro_rules | `(tactic| ktf_call "OL") => `(tactic| first
  | ((with_reducible show ∃ z, CR.SlcR _ _ (.str _) (some _) (some _) z ∧ _); with_reducible refine CR.opI (CR.slcN (by ktf_call "side") (by ktf_call "side") (by ktf_call "side")) ?_)
  | ((with_reducible show ∃ z, CR.SlcR _ _ (.str _) none _ z ∧ _); with_reducible refine CR.opI (CR.slcTo (by ktf_call "side") (by ktf_call "side")) ?_) | ((with_reducible show ∃ z, CR.SlcR _ _ (.str _) _ none z ∧ _); with_reducible refine CR.opI (CR.slcFrom (by ktf_call "side") (by ktf_call "side")) ?_) | ((with_reducible show ∃ z, CR.SlcR _ _ (.str _) _ _ z ∧ _); with_reducible refine CR.opI (CR.slcS (by ktf_call "side")) ?_) | with_reducible refine CR.opI (CR.slcL (by assumption)) ?_)
local macro_rules | `(tactic| ktf_call "AA") => `(tactic| first | refine CR.wA_nil ?_ | refine CR.wA_cons ?_ | with_reducible refine CR.put2A ?_)
local macro_rules | `(tactic| ktf_call "M") => `(tactic| first
  | ((with_reducible show CR.Recv _ _ _ _ ∧ _); with_reducible refine And.intro (Hd.recvS (by ktf_call "St") (by with_unfolding_all rfl)) ?_)
  | ((with_reducible show ∃ s d s', _ ∧ Hd.ShW s _ _ s' ∧ _); with_reducible refine Hd.shwO (by ktf_call "St") (by with_reducible constructor) ?_)
  | with_reducible refine CR.fldO (by with_reducible assumption) (by with_unfolding_all rfl) ?_
  | ((with_reducible show ∃ C' fs' d', ((∃ a, CR.D.ref _ = CR.D.ref a ∧ _) ∨ _) ∧ _); with_reducible refine CR.fldR (by ktf_call "St") (by with_reducible assumption) (by with_unfolding_all rfl) ?_)
  | with_reducible refine ⟨_, CR.TruD.bl _, ?_⟩
  | ((with_reducible show @LE.le _ _ _ _ ∧ _); with_reducible refine CR.and_le (by ktf_call "side") ?_) | ((with_reducible show @LT.lt _ _ _ _ ∧ _); with_reducible refine CR.and_lt (by ktf_call "side") ?_)
  | ((with_reducible apply CR.pureI); focus (intro Q q; ktf_call "go"; exact q))
  | with_reducible refine ⟨_, _, _, _, rfl, by assumption, by assumption, ?_⟩
  | ((with_reducible show CR.wE _ _ _ (.Call (.Attribute _ "append" _) _ _ _) _ _ _); refine CR.wE_bmS (by assumption) ?_)
  | ((with_reducible show ∃ T id, CR.MtId "append" T id ∧ _); refine ⟨_, _, CR.m_append, CR.tyRef (by ktf_call "St"), ?_⟩)
  | ((with_reducible show CR.MtdS _ _ "list.append" _ _ _ _); refine CR.appS (by ktf_call "St") (by ktf_call "side") ?_)
  | ((with_reducible show CR.wE _ _ _ (.Call (.Attribute _ "join" _) _ _ _) _ _ _); refine CR.wE_bm (by assumption) ?_)
  | ((with_reducible show ∃ T id, CR.MtId "join" T id ∧ _); refine ⟨_, _, CR.m_join, CR.tyStr, ?_⟩)
  | ((with_reducible show @LE.le Int _ _ _ ∧ _); with_reducible refine CR.and_leZ (by ktf_call "side") ?_)
  | refine CR.wP_none ?_ | (refine CR.wP_some ?_) | refine CR.opI rfl ?_)
local macro_rules | `(tactic| ktf_call "one") => `(tactic| first
  | (refine CR.isE ?_; ktf_call "E")
  | (refine CR.isA ?_; ktf_call "AA")
  | (refine CR.isBlt ?_; ktf_call "OB")
  | (refine CR.isSub ?_; ktf_call "OS")
  | (refine CR.isBin ?_; ktf_call "OA")
  | (refine CR.isCmp ?_; first | ktf_call "O" | ktf_call "OC")
  | (refine CR.isSlc ?_; ktf_call "OL"))
local macro_rules | `(tactic| ktf_call "goE") => `(tactic| repeat (first | ktf_call "one" | ktf_call "C" | ktf_call "M"))
local macro_rules | `(tactic| ktf_call "go") => `(tactic| repeat (first | (refine CR.isSs ?_; ktf_call "SS") | (refine CR.isS ?_; first | with_reducible refine CR.put2s ?_ | ktf_call "S") | ktf_call "one" | (refine CR.isT ?_; first | with_reducible refine CR.put2T ?_ | ktf_call "T") | ktf_call "C" | ktf_call "M"))
local macro_rules | `(tactic| ktf_call ("bz", $h:ident)) => `(tactic| simp only [Bool.and_eq_true, Bool.or_eq_true, Bool.not_eq_true', Bool.not_eq_false', decide_eq_true_eq, decide_eq_false_iff_not, Bool.and_eq_false_iff, Bool.or_eq_false_iff, Int.ofNat_lt, Int.ofNat_le, Int.natCast_inj, CR.s_blank, CR.s_nl, CR.s_empty, CR.str_one] at $h:ident)
local macro_rules | `(tactic| ktf_call "sl") => `(tactic| simp only [CR.wipeS, List.set_cons_succ, List.set_cons_zero])
local macro_rules | `(tactic| ktf_call ("sl", $h:ident)) => `(tactic| simp only [CR.wipeS, List.set_cons_succ, List.set_cons_zero] at $h:ident)

variable {Γ : Wd} {k : Nat} {f : Addr} {fd : FuncData}
local macro_rules | `(tactic| ktf_call "C") => `(tactic| first
  | (show spSRows _ _ _ _ _ _; refine spSRows.mk (by ktf_call "St") (by ktf_call "side") (by ktf_call "side") ?_)
  | (show spRowAt _ _ _ _ _; refine spRowAt.mk (by assumption) (by ktf_call "side") ?_)
  | (show spSAt _ _ _ _ _; refine spSAt.mk (by with_reducible assumption) (by with_reducible assumption) ?_)
  | (show spLookWidth _ _ _ _ _; refine spLookWidth.mk ?_ ?_)
  | (show spLookOffset _ _ _ _ _; refine spLookOffset.mk (by ktf_call "side") ?_ ?_))
inductive spSPoint (cS cP : Addr) : FnS
  | mk {p d : Addr} {s : Sh} {row col : Int} {ch : Bool} {S : Sto} {Q : D → Sto → Prop} {E : Addr → Sto → Prop} (hS : S p = some (insS cS s d)) (ok : s.Ok) (q : ∀ r c : Nat, row = r → col = c → r < s.height → Q .non (put S p (insS cS (s.point r c ch) d))) (e : ¬ (0 ≤ row ∧ row < s.height ∧ 0 ≤ col) → E cP S) : spSPoint cS cP [.ref p, .int row, .int col, .bl ch] S Q E
def _root_.CR.Sh.win (s : Sh) : List (List Nat) := ((s.R.drop s.first).take s.height).map fun r => seg s.now r.1 r.2.1
inductive spSView (cS : Addr) : FnS
  | mk {p d : Addr} {s : Sh} {S : Sto} {Q : D → Sto → Prop} {E : Addr → Sto → Prop} (hS : S p = some (insS cS s d)) (ok : s.Ok) (q : Q (.tup [.lst (s.win.map .str), .int ((s.row : Nat) - (s.first : Nat)), .int (s.col : Nat)]) S) : spSView cS [.ref p] S Q E
theorem ok_resized {s : Sh} (ok : s.Ok) {w h f : Nat} {b : Bool} (h1 : 2 ≤ w) (h2 : w ≤ 200) (h3 : 1 ≤ h) (h4 : h ≤ 100) : Sh.Ok { s with width := w, height := h, wish := none, first := f, back := b } := ⟨ok.len, h1, h2, h3, h4, ok.car, ok.anc, fun w e => by cases e⟩
inductive spSResize (cS cZ : Addr) : FnS
  | mk {p d : Addr} {s : Sh} {w h : Int} {S : Sto} {Q : D → Sto → Prop} {E : Addr → Sto → Prop} (hS : S p = some (insS cS s d)) (ok : s.Ok) (hf : s.first < s.R.length) (q : ∀ m n : Nat, w = m → h = n → 2 ≤ m → m ≤ 200 → 1 ≤ n → n ≤ 100 → Q .non (put S p (insS cS (s.resize m n) d))) (e : ¬ (2 ≤ w ∧ w ≤ 200 ∧ 1 ≤ h ∧ h ≤ 100) → E cZ S) : spSResize cS cZ [.ref p, .int w, .int h] S Q E
theorem set_mk {y : List Nat} {o : Nat} : ∀ {M : List (List Nat × Nat)}, (M.map (·.1)).Nodup → putKD (mkD M) (.inr ⟨y.toArray⟩) (.int (o : Nat)) = mkD (setMark y o M) := fun {M} hnd => by
  by_cases h : y ∈ M.map (·.1)
  · obtain ⟨⟨y2, v⟩, hm, rfl⟩ := List.mem_map.mp h
    obtain ⟨M1, M2, rfl⟩ := List.append_of_mem hm
    rw [List.map_append, List.map_cons, List.nodup_append] at hnd
    obtain ⟨hn1, hn2, hn3⟩ := hnd
    have n1 : y2 ∉ M1.map (·.1) := fun z => hn3 y2 z y2 List.mem_cons_self rfl
    have n2 : y2 ∉ M2.map (·.1) := (List.nodup_cons.mp hn2).1
    rw [put_mk n1 n2]
    have : ∀ M1 : List (List Nat × Nat), y2 ∉ M1.map (·.1) → setMark y2 o (M1 ++ (y2, v) :: M2) = M1 ++ (y2, o) :: M2 := by
      intro M1
      induction M1 with
      | nil => intro _; show (if y2 = y2 then _ else _) = _; rw [if_pos rfl]; rfl
      | cons m r ih =>
        intro hh
        rw [List.map_cons, List.mem_cons, not_or] at hh
        show (if m.1 = y2 then _ else m :: setMark y2 o (r ++ (y2, v) :: M2)) = _
        rw [if_neg (fun z => hh.1 z.symm), ih hh.2]
        rfl
    rw [this M1 n1]
  · have e : setMark y o M = M ++ [(y, o)] := by
      clear hnd
      induction M with
      | nil => rfl
      | cons m r ih =>
        rw [List.map_cons, List.mem_cons, not_or] at h
        show (if m.1 = y then _ else m :: setMark y o r) = _
        rw [if_neg (fun z => h.1 z.symm), ih h.2]
        rfl
    unfold putKD
    rw [if_neg, e]
    · unfold mkD
      rw [List.map_append]
      rfl
    · intro z
      obtain ⟨kv, h1, h2⟩ := List.any_eq_true.mp z
      unfold mkD at h1
      obtain ⟨m, h3, rfl⟩ := List.mem_map.mp h1
      have := key_inj.mp (of_decide_eq_true h2)
      exact h (List.mem_map.mpr ⟨m, h3, this⟩)
theorem setMark_names (y : List Nat) (o : Nat) : ∀ M : List (List Nat × Nat), (setMark y o M).map (·.1) = if y ∈ M.map (·.1) then M.map (·.1) else M.map (·.1) ++ [y]
  | [] => rfl
  | m :: r => by
    have ih := setMark_names y o r
    show (if m.1 = y then (y, o) :: r else m :: setMark y o r).map (·.1) = _
    by_cases h : m.1 = y
    · rw [if_pos h, if_pos (by rw [List.map_cons, h]; exact List.mem_cons_self), List.map_cons, List.map_cons, h]
    · rw [if_neg h, List.map_cons, ih, List.map_cons]
      by_cases h2 : y ∈ r.map (·.1)
      · rw [if_pos h2, if_pos (List.mem_cons_of_mem _ h2)]
      · rw [if_neg h2, if_neg (fun z => by rcases List.mem_cons.mp z with e | e; exact h e.symm; exact h2 e)]
        rfl
theorem mark_mk {s : Sh} (hm : s.Mk) (hl : s.marks.length + 1 < 1000) (y : List Nat) (o : Nat) : (s.mark y o).Mk := by
  have e := setMark_names y o s.marks
  refine ⟨?_, ?_⟩
  · show ((setMark y o s.marks).map (·.1)).Nodup
    rw [e]
    split
    · exact hm.nd
    · rename_i h
      rw [List.nodup_append]
      exact ⟨hm.nd, by simp, fun a ha b hb z => by rw [List.mem_singleton] at hb; rw [z, hb] at ha; exact h ha⟩
  · have e2 := congrArg List.length e
    rw [List.length_map] at e2
    show (setMark y o s.marks).length < 1000
    rw [e2]
    split
    · rw [List.length_map]; omega
    · rw [List.length_append, List.length_map, List.length_singleton]; exact hl
inductive spSMark (cS cP : Addr) : FnS
  | mk {p d : Addr} {s : Sh} {y : List Nat} {o : Int} {S : Sto} {Q : D → Sto → Prop} {E : Addr → Sto → Prop} (hS : S p = some (insS cS s d)) (hD : S d = some (.dct (mkD s.marks))) (ok : s.Ok) (hm : s.Mk) (q : ∀ n : Nat, o = n → n ≤ s.now.length → Q .non (putM cS S p d (s.mark y n))) (e : ¬ (0 ≤ o ∧ o ≤ s.now.length) → E cP S) : spSMark cS cP [.ref p, .str y, .int o] S Q E
abbrev markT (m : List Nat × Nat) : D := .tup [.str m.1, .int (m.2 : Nat)]
def markV (M : List (List Nat × Nat)) (y : List Nat) : Nat := match M.find? (fun m => decide (m.1 = y)) with | some m => m.2 | none => 0
theorem markV_at {M : List (List Nat × Nat)} (hnd : (M.map (·.1)).Nodup) {m : List Nat × Nat} (h : m ∈ M) : markV M m.1 = m.2 ∧ valD (mkD M) (.inr ⟨m.1.toArray⟩) = some (.int (m.2 : Nat)) := by
  obtain ⟨M1, M2, rfl⟩ := List.append_of_mem h
  obtain ⟨y, o⟩ := m
  rw [List.map_append, List.map_cons, List.nodup_append] at hnd
  obtain ⟨hn1, hn2, hn3⟩ := hnd
  have n1 : y ∉ M1.map (·.1) := fun z => hn3 y z y List.mem_cons_self rfl
  refine ⟨?_, val_mk n1⟩
  unfold markV
  rw [List.find?_append, List.find?_eq_none.mpr fun x hx z => n1 (List.mem_map.mpr ⟨x, hx, of_decide_eq_true z⟩), Option.none_or, List.find?_cons_of_pos (by exact decide_eq_true rfl)]
theorem marks_perm {M : List (List Nat × Nat)} (hnd : (M.map (·.1)).Nodup) {ns : List (List Nat)} (hp : ns.Perm (M.map (·.1))) : (ns.map fun y => (y, markV M y)).Perm M := by
  have h := hp.map fun y => (y, markV M y)
  rw [List.map_map] at h
  have e : M.map ((fun y => (y, markV M y)) ∘ fun x => x.1) = M := by
    have : ∀ x ∈ M, ((fun y => (y, markV M y)) ∘ fun x => x.1) x = id x := fun x hx => by
      show (x.1, markV M x.1) = x
      rw [(markV_at hnd hx).1]
    rw [List.map_congr_left this, List.map_id]
  rwa [e] at h
inductive spSMarks (cS : Addr) : FnS
  | mk {p d : Addr} {s : Sh} {S : Sto} {Q : D → Sto → Prop} {E : Addr → Sto → Prop} (hS : S p = some (insS cS s d)) (hD : S d = some (.dct (mkD s.marks))) (hm : s.Mk) (h64 : s.marks.length < 64) (q : ∀ L : List (List Nat × Nat), L.Perm s.marks → sortedS (L.map fun m => ⟨m.1.toArray⟩) = true → Q (.lst (L.map markT)) S) : spSMarks cS [.ref p] S Q E
theorem ok_sheet_marks {cS : Addr} (F : FnM Γ "marks" "Sheet.marks" s_Sheet_marks f fd) (K : FSh Γ cS) (b_sorted : Γ.mg "sorted" = none) : OkD Γ 1 f fd ["self"] (spSMarks cS) := by
  refine okD F sc_Sheet_marks nm_Sheet_marks (by decide +kernel) (fun ds S Q E h => by cases h; rfl) (fun X B ds Q E G h => ?_)
  have Gg := G.g
  cases h with
  | @mk p d s _ _ _ hS hD hm h64 q =>
    show wSs Γ X B _ [.val (.ref p), .no] B.S _
    refine wSs_cons (wS_ret (wE_lc Gg [("name", 1)] (by decide +kernel) (wI_lst Gg (eSortedKeys Gg (by ktf_call "Kd") b_sorted ?_))))
    ktf_call "goE"
    refine ⟨d, _, s.marks.map (·.1), rfl, hD, by unfold mkD; rw [List.map_map, List.map_map]; rfl, by rw [List.length_map]; exact h64, fun ms hp hs => ⟨_, rfl, ?_⟩⟩
    have hml : ms.length < 64 := by rw [hp.length_eq, List.length_map]; exact h64
    refine lcM2 (nmb := nb_Sheet_marks_0) (i := 1) (g := D.str) (h := fun y => .tup [.str y, .int (markV s.marks y : Nat)]) [1] rfl (by rfl) rfl (by decide) (by ktf_call "Kd") (by omega) ?c1 ?c2
    case c1 =>
      intro y hy Xb Gb Q q
      obtain ⟨m, hm1, rfl⟩ := List.mem_map.mp (hp.mem_iff.mp hy)
      obtain ⟨e1, e2⟩ := markV_at hm.nd hm1
      rw [e1] at q
      ktf_call "sl"
      refine wE_tup (wA_cons ?_)
      refine eN Gb (by ktf_call "At") (by ktf_call "KdV") ?_
      refine wA_cons ?_
      refine wE_dget Gb ?_
      ktf_call "goE"
      refine ⟨d, _, .inr ⟨m.1.toArray⟩, _, rfl, hD, by show D.str m.1 = D.str m.1.toArray.toList; simp, e2, ?_⟩
      ktf_call "goE"
      exact q
    case c2 =>
      have q := q (ms.map fun y => (y, markV s.marks y)) (marks_perm hm.nd hp) (by rw [List.map_map]; exact hs)
      rw [List.map_map] at q
      exact q
end Hd

end

section
namespace Hd
open PySem PySem.Spec PyProof.Rows L2 CR
local macro_rules | `(tactic| ktf_call "At") => `(tactic| with_reducible (repeat (first | exact CR.At.hd | apply CR.At.tl)))
local macro_rules | `(tactic| ktf_call "Up") => `(tactic| with_reducible (repeat (first | exact CR.UpF.hd | apply CR.UpF.tl)))
local macro_rules | `(tactic| ktf_call "Kd") => `(tactic| with_reducible (repeat (first | exact CR.Kd.hd | apply CR.Kd.tl)))
local macro_rules | `(tactic| ktf_call "KdV") => `(tactic| first | (refine Or.inl ?_; ktf_call "Kd"; done) | (refine Or.inr (Or.inl ?_); ktf_call "Kd"; done) | (refine Or.inr (Or.inr ?_); ktf_call "Kd"; done))
local macro_rules | `(tactic| ktf_call "KdL") => `(tactic| first | (refine Or.inl ?_; ktf_call "Kd"; done) | (refine Or.inr ?_; ktf_call "Kd"; done))
local macro_rules | `(tactic| ktf_call "side") => `(tactic| first | with_reducible assumption | omega | (simp only [List.length_nil, List.length_cons, List.length_append, List.length_map, List.length_take, List.length_drop]; omega) | decide)
local macro_rules | `(tactic| ktf_call "St") => `(tactic| first | with_reducible assumption | with_reducible exact CR.put_same | (with_reducible refine (CR.put_ne (by with_reducible assumption)).trans ?_; with_reducible assumption))
local macro_rules | `(tactic| ktf_call "C") => `(tactic| fail)
local macro_rules | `(tactic| ktf_call "O") => `(tactic| fail)
local macro_rules | `(tactic| ktf_call "E") => `(tactic| first
  | ((with_reducible show CR.wE _ _ _ (.Name _ _) _ _ _); refine CR.eN (by assumption) (by ktf_call "At") (by ktf_call "KdV") ?_)
  | refine CR.wE_int ?_
  | with_reducible refine CR.wE_sp ?_
  | with_reducible refine CR.wE_nl ?_
  | with_reducible refine CR.wE_em ?_
  | refine CR.wE_str ?_
  | refine CR.wE_bool ?_
  | refine CR.wE_none ?_
  | ((with_reducible show CR.wE _ _ _ (.Attribute (.Name _ _) _ _) _ _ _); refine Hd.eSelf (by assumption) (by with_reducible assumption) (by ktf_call "At") (by ktf_call "KdV") (by ktf_call "St") (by with_reducible constructor) ?_)
  | refine CR.wE_bin ?_
  | ((with_reducible show CR.wE _ _ _ (.Call (.Name _ _) _ _ _) _ _ _); refine CR.eCall (by assumption) (by with_reducible assumption) (by first | decide | omega) (by ktf_call "Kd") ?_)
  | ((with_reducible show CR.wE _ _ _ (.Call (.Name _ _) _ _ _) _ _ _); refine CR.eNew (by assumption) (by with_reducible assumption) (by first | decide | omega) (by ktf_call "Kd") ?_)
  | (((with_reducible show CR.wE _ _ _ (.Call (.Name _ _) _ _ _) _ _ _); refine CR.eIsX (by assumption) (by ktf_call "Kd") (by with_reducible assumption) ?_))
  | ((with_reducible show CR.wE _ _ _ (.Call (.Name _ _) _ _ _) _ _ _); refine CR.eBltS (by assumption) (by with_reducible constructor) (by ktf_call "Kd") (by with_reducible assumption) ?_)
  | ((with_reducible show CR.wE _ _ _ (.Call (.Name _ _) _ _ _) _ _ _); refine CR.eBtyS (by assumption) (by with_reducible constructor) (by ktf_call "Kd") (by with_reducible assumption) ?_)
  | ((with_reducible show CR.wE _ _ _ (.Name _ _) _ _ _); refine CR.eGlob (by assumption) (by with_reducible assumption) (by ktf_call "Kd") ?_)
  | refine CR.wE_cmp ?_
  | refine CR.eChain ?_
  | refine CR.wE_slice ?_
  | refine CR.wE_subS ?_
  | refine CR.wE_tup ?_
  | refine CR.wE_lst ?_
  | refine CR.wE_neg ?_
  | refine CR.wE_if ?_
  | ((with_reducible show CR.wE _ _ _ (.Call (.Attribute _ _ _) _ _ _) _ _ _); refine CR.wE_meth0 (by assumption) (by with_reducible assumption) (by first | decide | omega) ?_)
  | ((with_reducible show CR.wE _ _ _ (.Call (.Attribute _ _ _) _ _ _) _ _ _); refine CR.wE_meth (by assumption) (by with_reducible assumption) (by first | decide | omega) ?_)
  | ((with_reducible show CR.wE _ _ _ (.Attribute _ _ _) _ _ _); refine CR.wE_fld (by assumption) ?_)
  | with_reducible refine CR.put2E ?_)
local macro_rules | `(tactic| ktf_call "T") => `(tactic| first
  | refine CR.wT_cmp ?_
  | refine CR.tChain ?_
  | refine CR.wT_not ?_
  | refine CR.wT_val (by assumption) ?_)
local macro_rules | `(tactic| ktf_call "S") => `(tactic| first
  | refine CR.wS_ret ?_
  | refine CR.wS_if ?_
  | ((with_reducible show CR.wS _ _ _ (.Assign [.Attribute _ _ _] _ _) _ _ _); refine Hd.sSelf (by assumption) (by with_reducible assumption) (by ktf_call "At") (by ktf_call "KdV") ?_)
  | ((with_reducible show CR.wS _ _ _ (.Assign [.Name _ _] (.List _ _) _) _ _ _); refine CR.sOwn (es := []) (by assumption) (by ktf_call "Up") (by ktf_call "KdL") ?_)
  | ((with_reducible show CR.wS _ _ _ (.Expr (.Call (.Attribute _ _ _) _ _ _) _) _ _ _); refine CR.sApp (by assumption) (by ktf_call "At") (by ktf_call "Up") (by ktf_call "KdV") ?_)
  | ((with_reducible show CR.wS _ _ _ (.Expr (.Call (.Attribute _ _ _) _ _ _) _) _ _ _); refine CR.sExt (by assumption) (by ktf_call "At") (by ktf_call "Up") (by ktf_call "KdV") ?_)
  | ((with_reducible show CR.wS _ _ _ (.Assign [.Name _ _] _ _) _ _ _); refine CR.sSet (by assumption) (by ktf_call "Up") (by ktf_call "KdL") ?_)
  | ((with_reducible show CR.wS _ _ _ (.Raise _ _ _) _ _ _); refine CR.sRaise (by assumption) (by with_reducible assumption) (by ktf_call "Kd") ?_)
  | refine CR.wS_expr ?_
  | refine CR.wS_pass ?_
  | refine CR.wS_retN ?_)
local macro_rules | `(tactic| ktf_call "SS") => `(tactic| first
  | with_reducible refine CR.put2S ?_
  | refine CR.wSs_cons ?_
  | refine CR.wSs_nil ?_)
local macro_rules | `(tactic| ktf_call "OB") => `(tactic| first
  | ((with_reducible show CR.BltS _ _ _ _ [.str _] _); with_reducible refine CR.bltSR (CR.lenS (by ktf_call "side")) ?_) | ((with_reducible show CR.BltS _ _ _ _ [.lst _] _); with_reducible refine CR.bltSR (CR.lenL (by assumption)) ?_) | ((with_reducible show CR.BltS _ _ _ _ [.tup _] _); with_reducible refine CR.bltSR (CR.lenT (by assumption)) ?_)
  | ((with_reducible show CR.BltS _ _ _ _ [.ref _] _); with_reducible refine CR.lenR (by with_reducible assumption) (by ktf_call "St") ?_)
  | with_reducible refine CR.bltSR (CR.min2N (by assumption)) ?_ | with_reducible refine CR.bltSR (CR.max2N (by assumption)) ?_
  | with_reducible refine CR.bltSR (CR.ordS) ?_ | with_reducible refine CR.bltSR (CR.absI) ?_ | with_reducible refine CR.bltSR (CR.max2 (by assumption)) ?_ | with_reducible refine CR.bltSR (CR.min2 (by assumption)) ?_
  | with_reducible refine CR.bltSR (CR.copyL (by assumption)) ?_
  | with_reducible refine CR.bltSR (CR.intI) ?_ | with_reducible refine CR.bltSR (CR.intB) ?_)
local macro_rules | `(tactic| ktf_call "OS") => `(tactic| first
  | ((with_reducible show CR.SubS _ _ _ (.str _) _ _); with_reducible refine CR.subSR (CR.subSn (by ktf_call "side") (by ktf_call "side")) ?_) | ((with_reducible show CR.SubS _ _ _ (.str _) _ _); with_reducible refine CR.subSR (CR.subSi (by ktf_call "side") (by ktf_call "side") (by ktf_call "side")) ?_) | ((with_reducible show CR.SubS _ _ _ (.lst _) _ _); with_reducible refine CR.subSR (CR.subLn (by assumption) (by ktf_call "side")) ?_) | ((with_reducible show CR.SubS _ _ _ (.tup _) _ _); with_reducible refine CR.subSR (CR.subTn (by assumption) (by ktf_call "side")) ?_))
local macro_rules | `(tactic| ktf_call "OA") => `(tactic| first
  | with_reducible refine CR.opI (CR.addI) ?_ | with_reducible refine CR.opI (CR.subI) ?_ | ((with_reducible show ∃ z, CR.BinR _ _ _ (.str _) _ z ∧ _); with_reducible refine CR.opI (CR.addS (by ktf_call "side")) ?_)
  | ((with_reducible show ∃ z, CR.BinR _ _ .Mult _ _ z ∧ _); refine CR.opI (CR.mulA (by ktf_call "side") (by ktf_call "side")) ?_) | ((with_reducible show ∃ z, CR.BinR _ _ .FloorDiv _ _ z ∧ _); refine CR.opI (CR.divA (by ktf_call "side") (by ktf_call "side")) ?_) | ((with_reducible show ∃ z, CR.BinR _ _ .Mod _ _ z ∧ _); refine CR.opI (CR.modI (by ktf_call "side")) ?_))
local macro_rules | `(tactic| ktf_call "OC") => `(tactic| first
  | with_reducible refine CR.opI (CR.ltI) ?_ | with_reducible refine CR.opI (CR.leI) ?_ | with_reducible refine CR.opI (CR.gtI) ?_ | with_reducible refine CR.opI (CR.geI) ?_ | with_reducible refine CR.opI (CR.eqI) ?_ | with_reducible refine CR.opI (CR.neI) ?_
  | with_reducible refine CR.opI (CR.eqS) ?_ | with_reducible refine CR.opI (CR.neS) ?_ | with_reducible refine CR.opI (CR.isN) ?_ | with_reducible refine CR.opI (CR.notN) ?_ | with_reducible refine CR.opI (CR.inC) ?_ | with_reducible refine CR.opI (CR.leS) ?_)
local macro_rules | `(tactic| ktf_call "OL") => `(tactic| first
  | ((with_reducible show ∃ z, CR.SlcR _ _ (.str _) (some _) (some _) z ∧ _); with_reducible refine CR.opI (CR.slcN (by ktf_call "side") (by ktf_call "side") (by ktf_call "side")) ?_)
  | ((with_reducible show ∃ z, CR.SlcR _ _ (.str _) none _ z ∧ _); with_reducible refine CR.opI (CR.slcTo (by ktf_call "side") (by ktf_call "side")) ?_) | ((with_reducible show ∃ z, CR.SlcR _ _ (.str _) _ none z ∧ _); with_reducible refine CR.opI (CR.slcFrom (by ktf_call "side") (by ktf_call "side")) ?_) | ((with_reducible show ∃ z, CR.SlcR _ _ (.str _) _ _ z ∧ _); with_reducible refine CR.opI (CR.slcS (by ktf_call "side")) ?_) | with_reducible refine CR.opI (CR.slcL (by assumption)) ?_)
local macro_rules | `(tactic| ktf_call "AA") => `(tactic| first | refine CR.wA_nil ?_ | refine CR.wA_cons ?_ | with_reducible refine CR.put2A ?_)
local macro_rules | `(tactic| ktf_call "M") => `(tactic| first
  | ((with_reducible show CR.Recv _ _ _ _ ∧ _); with_reducible refine And.intro (Hd.recvS (by ktf_call "St") (by with_unfolding_all rfl)) ?_)
  | ((with_reducible show ∃ s d s', _ ∧ Hd.ShW s _ _ s' ∧ _); with_reducible refine Hd.shwO (by ktf_call "St") (by with_reducible constructor) ?_)
  | with_reducible refine CR.fldO (by with_reducible assumption) (by with_unfolding_all rfl) ?_
  | ((with_reducible show ∃ C' fs' d', ((∃ a, CR.D.ref _ = CR.D.ref a ∧ _) ∨ _) ∧ _); with_reducible refine CR.fldR (by ktf_call "St") (by with_reducible assumption) (by with_unfolding_all rfl) ?_)
  | with_reducible refine ⟨_, CR.TruD.bl _, ?_⟩
  | ((with_reducible show @LE.le _ _ _ _ ∧ _); with_reducible refine CR.and_le (by ktf_call "side") ?_) | ((with_reducible show @LT.lt _ _ _ _ ∧ _); with_reducible refine CR.and_lt (by ktf_call "side") ?_)
  | ((with_reducible apply CR.pureI); focus (intro Q q; ktf_call "go"; exact q))
  | with_reducible refine ⟨_, _, _, _, rfl, by assumption, by assumption, ?_⟩
  | ((with_reducible show CR.wE _ _ _ (.Call (.Attribute _ "append" _) _ _ _) _ _ _); refine CR.wE_bmS (by assumption) ?_)
  | ((with_reducible show ∃ T id, CR.MtId "append" T id ∧ _); refine ⟨_, _, CR.m_append, CR.tyRef (by ktf_call "St"), ?_⟩)
  | ((with_reducible show CR.MtdS _ _ "list.append" _ _ _ _); refine CR.appS (by ktf_call "St") (by ktf_call "side") ?_)
  | ((with_reducible show CR.wE _ _ _ (.Call (.Attribute _ "join" _) _ _ _) _ _ _); refine CR.wE_bm (by assumption) ?_)
  | ((with_reducible show ∃ T id, CR.MtId "join" T id ∧ _); refine ⟨_, _, CR.m_join, CR.tyStr, ?_⟩)
  | ((with_reducible show @LE.le Int _ _ _ ∧ _); with_reducible refine CR.and_leZ (by ktf_call "side") ?_)
  | refine CR.wP_none ?_ | (refine CR.wP_some ?_) | refine CR.opI rfl ?_)
local macro_rules | `(tactic| ktf_call "one") => `(tactic| first
  | (refine CR.isE ?_; ktf_call "E")
  | (refine CR.isA ?_; ktf_call "AA")
  | (refine CR.isBlt ?_; ktf_call "OB")
  | (refine CR.isSub ?_; ktf_call "OS")
  | (refine CR.isBin ?_; ktf_call "OA")
  | (refine CR.isCmp ?_; first | ktf_call "O" | ktf_call "OC")
  | (refine CR.isSlc ?_; ktf_call "OL"))
local macro_rules | `(tactic| ktf_call "goE") => `(tactic| repeat (first | ktf_call "one" | ktf_call "C" | ktf_call "M"))
local macro_rules | `(tactic| ktf_call "go") => `(tactic| repeat (first | (refine CR.isSs ?_; ktf_call "SS") | (refine CR.isS ?_; first | with_reducible refine CR.put2s ?_ | ktf_call "S") | ktf_call "one" | (refine CR.isT ?_; first | with_reducible refine CR.put2T ?_ | ktf_call "T") | ktf_call "C" | ktf_call "M"))
local macro_rules | `(tactic| ktf_call ("bz", $h:ident)) => `(tactic| simp only [Bool.and_eq_true, Bool.or_eq_true, Bool.not_eq_true', Bool.not_eq_false', decide_eq_true_eq, decide_eq_false_iff_not, Bool.and_eq_false_iff, Bool.or_eq_false_iff, Int.ofNat_lt, Int.ofNat_le, Int.natCast_inj, CR.s_blank, CR.s_nl, CR.s_empty, CR.str_one] at $h:ident)
local macro_rules | `(tactic| ktf_call "sl") => `(tactic| simp only [CR.wipeS, List.set_cons_succ, List.set_cons_zero])
local macro_rules | `(tactic| ktf_call ("sl", $h:ident)) => `(tactic| simp only [CR.wipeS, List.set_cons_succ, List.set_cons_zero] at $h:ident)

variable {Γ : Wd} {k : Nat} {f : Addr} {fd : FuncData}
abbrev atD (s : Sh) : D := .tup [.int (s.caret : Nat), .int (s.row : Nat), .int (s.col : Nat)]
theorem pu_atD (s : Sh) : Pu 1 (atD s) := .tup fun x hx => by
  simp only [List.mem_cons, List.not_mem_nil, or_false] at hx
  rcases hx with h | h | h <;> (subst h; exact .int _)
theorem at_same {s s' : Sh} (h1 : s.now = s'.now) (h2 : s.width = s'.width) (h3 : s.caret = s'.caret) (h4 : s.row = s'.row) : atD s = atD s' := by
  have : s.col = s'.col := by
    unfold Sh.col Sh.R
    rw [h1, h2, h3, h4]
  unfold atD
  rw [h3, h4, this]
theorem row_same {s s' : Sh} (h1 : s.now = s'.now) (h2 : s.width = s'.width) (h3 : s.caret = s'.caret) (h4 : s.back = s'.back) : s.row = s'.row := by
  unfold Sh.row Sh.R
  rw [h1, h2, h3, h4]
theorem home_at {s : Sh} (ok : s.Ok) (ch : Bool) : (s.move .home ch).caret = (rowD0 s.R s.row).1 ∧ (s.move .home ch).row = s.row ∧ (s.move .home ch).col = 0 ∧ (s.move .home ch).anchor = (if ch = true then s.anchor else (rowD0 s.R s.row).1) := by
  have hr : (s.move .home ch).row = s.row := (rows_cs ok.w2 s.now).row_start s.row ok.row_lt
  refine ⟨rfl, hr, ?_, rfl⟩
  unfold Sh.col
  rw [hr]
  show wideN (seg s.now (rowD0 s.R s.row).1 (rowD0 s.R s.row).1) = 0
  rw [seg_nil (Nat.le_refl _)]
  rfl
theorem end_at {s : Sh} (ok : s.Ok) (ch : Bool) : (s.move .end_ ch).caret = (rowD0 s.R s.row).2.1 ∧ (s.move .end_ ch).row = s.row ∧ (s.move .end_ ch).anchor = (if ch = true then s.anchor else (rowD0 s.R s.row).2.1) := by
  have cs := rows_cs ok.w2 s.now
  have h1 : rowAt (rowD0 s.R s.row).2.1 true s.R = s.row := cs.row_end s.row true ok.row_lt (.inl rfl)
  have hb : (s.move .end_ ch).back = (rowD0 s.R s.row).2.2 := by
    show (true && softEnd s.R (rowAt (rowD0 s.R s.row).2.1 true s.R) (rowD0 s.R s.row).2.1) = _
    rw [h1]
    unfold softEnd
    rw [decide_eq_true rfl, Bool.and_true, Bool.true_and]
  refine ⟨rfl, ?_, rfl⟩
  show rowAt (rowD0 s.R s.row).2.1 (s.move .end_ ch).back s.R = s.row
  rw [hb]
  refine cs.row_end s.row _ ok.row_lt ?_
  by_cases h : (rowD0 s.R s.row).2.2 = true
  · exact .inl h
  · refine .inr ?_
    cases e : (rowD0 (rowsOf s.width s.now) s.row).2.2 with
    | true => exact absurd e h
    | false => rfl
theorem mv_anchor (s : Sh) (m : Mv) : (s.move m true).anchor = s.anchor := by
  unfold Sh.move Sh.rowsMove
  dsimp only
  split
  · split
    · rfl
    · split <;> rfl
  · split
    · rfl
    · split
      · rfl
      · split
        · rename_i h; cases h.2.2
        · rfl
theorem left_car {s : Sh} (h : s.lo < s.hi) : (s.move .left false).caret = s.lo := by
  have e : s.move .left false = Sh.put { s with wish := none } s.lo false false := by
    unfold Sh.move
    rw [if_neg (by decide)]
    show (if Mv.left = .home then _ else if Mv.left = .end_ then _ else if (Mv.left = .left ∨ Mv.left = .right) ∧ s.lo < s.hi ∧ false = false then Sh.put _ (if Mv.left = Mv.left then s.lo else s.hi) false false else _) = _
    rw [if_neg (by decide), if_neg (by decide), if_pos ⟨.inl rfl, h, rfl⟩, if_pos rfl]
  rw [e]
  rfl
theorem eqv_self {d : D} {n : Nat} (h : Pu n d) : PyData.eqv (pyD d) (pyD d) = true := SeqAt.eqv_refl _ h.lay
theorem pu2 (i j : Int) : Pu 1 (.tup [.int i, .int j]) := .tup fun x hx => by
  simp only [List.mem_cons, List.not_mem_nil, or_false] at hx
  rcases hx with h | h <;> (subst h; exact .int _)
theorem win_len {s : Sh} : s.win.length = min s.height (s.R.length - s.first) := by
  unfold Sh.win
  rw [List.length_map, List.length_take, List.length_drop]
theorem win_same {s s' : Sh} (h1 : s.now = s'.now) (h2 : s.width = s'.width) (h3 : s.height = s'.height) (h4 : s.first = s'.first) : s.win = s'.win := by
  unfold Sh.win Sh.R
  rw [h1, h2, h3, h4]
theorem pu_win {s : Sh} (ho : s.now.all okS = true) : Pu 1 (.lst (s.win.map .str)) := .lst fun x hx => by
  obtain ⟨t, ht, rfl⟩ := List.mem_map.mp hx
  unfold Sh.win at ht
  obtain ⟨r, _, rfl⟩ := List.mem_map.mp ht
  exact .str fun c hc => okS_lt ho c (seg_mem hc)
theorem rowsMove_wn {s : Sh} (ok : s.Ok) (n : Int) (ch : Bool) : (s.rowsMove n ch).Wn := by
  have hrl := ok.rlen
  have fin : ∀ (o : Nat) (b : Bool), o ≤ s.now.length → (s.put o b ch).Wn := fun o b ho => Sh.put_wn (ok.put0 b ch ho)
  have fin2 : ∀ s1 : Sh, s1.Wn → Sh.Wn { s1 with wish := some (s.wish.getD s.col) } := fun s1 h => ⟨h.lo, h.hi⟩
  unfold Sh.rowsMove
  dsimp only
  refine fin2 _ ?_
  split
  · exact fin _ _ (Nat.zero_le _)
  · split
    · exact fin _ _ (Nat.le_refl _)
    · exact fin _ _ (nearO_len ok (by omega))
theorem move_wn {s : Sh} (ok : s.Ok) (m : Mv) (ch : Bool) : (s.move m ch).Wn := by
  obtain ⟨hr1, hr2, hr3⟩ := row_in ok
  have hlh := lohi ok
  have ok0 := ok.nowish
  unfold Sh.move
  split
  · exact rowsMove_wn ok _ _
  · dsimp only
    split
    · exact Sh.put_wn (ok0.put0 _ _ (by show (rowD0 s.R s.row).1 ≤ s.now.length; omega))
    · split
      · exact Sh.put_wn (ok0.put0 _ _ (by show (rowD0 s.R s.row).2.1 ≤ s.now.length; omega))
      · split
        · refine Sh.put_wn (ok0.put0 _ _ ?_)
          show (if m = Mv.left then s.lo else s.hi) ≤ s.now.length
          split <;> omega
        · exact Sh.put_wn (ok0.put0 _ _ (flatG_le ok.car m))
theorem first_lt {s : Sh} (ok : s.Ok) (h : s.Wn) : s.first < s.R.length := Nat.lt_of_le_of_lt h.lo ok.row_lt
/-- a row shown pointed to -/
theorem point_at {s : Sh} (ok : s.Ok) (wn : s.Wn) {g c : Nat} (hg : g < s.height) (ch : Bool) : (s.point g c ch).Ok ∧ (s.point g c ch).Wn ∧ (s.point g c ch).first = s.first ∧ (s.point g c ch).row = min (s.first + g) (s.R.length - 1) ∧ (s.point g c ch).caret = nearO s.now (rowD0 s.R (min (s.first + g) (s.R.length - 1))) c ∧ (s.point g c ch).anchor = (if ch = true then s.anchor else (s.point g c ch).caret) := by
  have hfl := first_lt ok wn
  obtain ⟨kb, hkb⟩ : ∃ kb, kb = min (s.first + g) (s.R.length - 1) := ⟨_, rfl⟩
  have hk : kb < s.R.length := by omega
  obtain ⟨h1, h2⟩ := rowD0_in ok.w2 hk
  have hin := nearO_in s.now c h1
  have ho := nearO_len ok (w := c) hk
  obtain ⟨o, hoe⟩ : ∃ o, o = nearO s.now (rowD0 s.R kb) c := ⟨_, rfl⟩
  have e : s.point g c ch = Sh.put { s with wish := none } o (softEnd s.R kb o) ch := by rw [hoe, hkb]; rfl
  have hr : (s.point g c ch).row = kb := by
    rw [e]
    have := put_row (rows_cs ok.w2 s.now) (k := kb) (o := o) hk (by rw [hoe]; exact hin.1) (by rw [hoe]; exact hin.2)
    exact this
  rw [← hkb, ← hoe]
  refine ⟨by rw [e]; exact ok.nowish.put _ _ (by rw [hoe]; exact ho), by rw [e]; exact Sh.put_wn (ok.nowish.put0 _ _ (by rw [hoe]; exact ho)), ?_, hr, by rw [e]; rfl, by rw [e]; rfl⟩
  have h3 : (s.point g c ch).first = firstOf s.first s.R.length (s.point g c ch).row s.height := by rw [e]; rfl
  rw [h3, hr]
  exact firstOf_keep hk (by omega) (by omega)
end Hd

end

section
namespace Hd
open PySem PySem.Spec PyProof.Rows L2 CR
variable {Γ : Wd} {k : Nat} {f : Addr} {fd : FuncData}
/-- a sheet as it should be -/
structure ShI (s : Sh) : Prop where
  ok : s.Ok
  mks : s.Mk
  wn : s.Wn
  tx : isTextB s.now = true
theorem mk_of {s s' : Sh} (h : s'.marks.map (·.1) = s.marks.map (·.1)) (hm : s.Mk) : s'.Mk := ⟨by rw [h]; exact hm.nd, by have := congrArg List.length h; rw [List.length_map, List.length_map] at this; rw [this]; exact hm.few⟩
theorem new_fin {t : List Nat} {w h : Nat} (ht : isTextB t = true) (h1 : 2 ≤ w) (h2 : w ≤ 200) (h3 : 1 ≤ h) (h4 : h ≤ 100) : ShI (Sh.new t w h) := ⟨Sh.Ok.new (isText_len ht) h1 h2 h3 h4, ⟨List.nodup_nil, by show 0 < 1000; decide⟩, Sh.new_wn h1 h3, ht⟩
theorem mv_fin {s : Sh} (h : ShI s) (m : Mv) (ch : Bool) : ShI (s.move m ch) := by
  obtain ⟨a, b, c, d⟩ := move_now s m ch
  exact ⟨move_ok h.ok m ch, mk_of (by rw [b]) h.mks, move_wn h.ok m ch, by rw [a]; exact h.tx⟩
theorem go_fin {s : Sh} (h : ShI s) {o : Nat} (ho : o ≤ s.now.length) : ShI (s.go o) := ⟨h.ok.go ho, mk_of (s := s) rfl h.mks, Sh.put_wn (h.ok.nowish.put0 _ _ ho), h.tx⟩
theorem choose_fin {s : Sh} (h : ShI s) {a c : Nat} (ha : a ≤ s.now.length) (hc : c ≤ s.now.length) : ShI (s.choose a c) := by
  have h2 : Sh.Ok { s with wish := none, anchor := a } := ⟨h.ok.len, h.ok.w2, h.ok.w200, h.ok.h1, h.ok.h100, h.ok.car, ha, fun w e => by cases e⟩
  exact ⟨h.ok.choose ha hc, mk_of (s := s) rfl h.mks, Sh.put_wn (h2.put0 _ _ hc), h.tx⟩
theorem marks_between (s : Sh) (a b : Nat) (new : List Nat) : (s.between a b new).marks.map (·.1) = s.marks.map (·.1) := by
  show (s.marks.map fun m => (m.1, carry a b new.length m.2)).map (·.1) = _
  rw [List.map_map]
  rfl
theorem write_fin {s : Sh} (h : ShI s) {new : List Nat} (ht : isTextB (s.now.take s.lo ++ new ++ s.now.drop s.hi) = true) : ShI (s.write new) := ⟨(write_put0 h.ok ht).scroll, mk_of (marks_between s _ _ _) h.mks, Sh.put_wn (write_put0 h.ok ht), ht⟩
theorem erase_fin {s : Sh} (h : ShI s) (m : Mv) : ShI (s.erase m) := by
  have fin : ∀ s1 : Sh, s1.Ok → s1.Mk → isTextB s1.now = true → ShI ((s1.between s1.lo s1.hi []).put s1.lo false false) := fun s1 o1 m1 t1 => by
    have h2 := isText_cut2 t1 (lohi o1).1
    have h3 := write_put0 (new := []) o1 h2
    exact ⟨h3.scroll, mk_of (marks_between s1 _ _ _) m1, Sh.put_wn h3, h2⟩
  unfold Sh.erase
  dsimp only
  split
  · have hm := mv_fin h m true
    exact fin { s.move m true with first := s.first } ⟨hm.ok.len, hm.ok.w2, hm.ok.w200, hm.ok.h1, hm.ok.h100, hm.ok.car, hm.ok.anc, hm.ok.wsh⟩ ⟨hm.mks.nd, hm.mks.few⟩ hm.tx
  · exact fin s h.ok h.mks h.tx
theorem resize_fin {s : Sh} (h : ShI s) {m n : Nat} (h1 : 2 ≤ m) (h2 : m ≤ 200) (h3 : 1 ≤ n) (h4 : n ≤ 100) : ShI (s.resize m n) := by
  have ok1 : Sh.Ok { s with width := m, height := n, wish := none, first := rowAt (rowD0 s.R s.first).1 false (rowsOf m s.now), back := s.back && softEnd (rowsOf m s.now) (rowAt s.caret true (rowsOf m s.now)) s.caret } := ok_resized h.ok h1 h2 h3 h4
  exact ⟨ok1.scroll, mk_of (s := s) rfl h.mks, Sh.scroll_wn ok1.row_lt ok1.h1, h.tx⟩
theorem point_fin {s : Sh} (h : ShI s) {g c : Nat} (hg : g < s.height) (ch : Bool) : ShI (s.point g c ch) := by
  obtain ⟨a, b, _⟩ := point_at h.ok h.wn (c := c) hg ch
  exact ⟨a, mk_of (s := s) rfl h.mks, b, h.tx⟩
theorem move_sz (s : Sh) (m : Mv) (ch : Bool) : (s.move m ch).R = s.R ∧ (s.move m ch).width = s.width ∧ (s.move m ch).height = s.height := by
  obtain ⟨a, b, c, d⟩ := move_now s m ch
  exact ⟨by unfold Sh.R; rw [a, c], c, d⟩
theorem erase_sz (s : Sh) (m : Mv) : (s.erase m).width = s.width ∧ (s.erase m).height = s.height := by
  unfold Sh.erase
  dsimp only
  obtain ⟨_, _, c, d⟩ := move_now s m true
  split
  · exact ⟨c, d⟩
  · exact ⟨rfl, rfl⟩
theorem cut_len (t new : List Nat) (a b : Nat) (h : a ≤ b) : (t.take a ++ new ++ t.drop b).length ≤ t.length + new.length := by
  rw [List.length_append, List.length_append, List.length_take, List.length_drop]
  omega
theorem erase_len {s : Sh} (h : s.Ok) (m : Mv) : (s.erase m).now.length ≤ s.now.length := by
  unfold Sh.erase
  dsimp only
  split
  · have := cut_len (s.move m true).now [] (s.move m true).lo (s.move m true).hi (lohi (move_ok h m true)).1
    rw [(move_now s m true).1] at this
    show ((s.move m true).now.take _ ++ [] ++ (s.move m true).now.drop _).length ≤ _
    rw [(move_now s m true).1]
    exact this
  · exact cut_len s.now [] _ _ (lohi h).1
theorem write_len2 {s : Sh} (h : s.Ok) (new : List Nat) : (s.write new).now.length ≤ s.now.length + new.length := cut_len s.now new _ _ (lohi h).1
theorem isText_join {t new : List Nat} (h : isTextB t = true) (hn : new.all okS = true) {a b : Nat} (hab : a ≤ b) (hl : t.length + new.length ≤ 2000) : isTextB (t.take a ++ new ++ t.drop b) = true := by
  have hc := cut_len t new a b hab
  unfold isTextB at h ⊢
  rw [Bool.and_eq_true] at h ⊢
  refine ⟨decide_eq_true (by omega), ?_⟩
  have h2 := h.2
  rw [List.all_append, List.all_append, Bool.and_eq_true, Bool.and_eq_true]
  refine ⟨⟨List.all_eq_true.mpr fun c hc => List.all_eq_true.mp h2 c (List.mem_of_mem_take hc), ?_⟩, List.all_eq_true.mpr fun c hc => List.all_eq_true.mp h2 c (List.mem_of_mem_drop hc)⟩
  rw [← hn]
  exact congrArg (fun g => new.all g) (funext fun c => (okS_okC c).symm)
/-- a move shifts what is shown by no more than is needed -/
theorem move_first (s : Sh) (m : Mv) (ch : Bool) : (s.move m ch).first = firstOf s.first s.R.length (s.move m ch).row s.height := by
  unfold Sh.move Sh.rowsMove
  dsimp only
  split
  · split
    · rfl
    · split <;> rfl
  · split
    · rfl
    · split
      · rfl
      · split <;> rfl
end Hd

end

section
namespace Hd
open PySem PySem.Spec PyProof.Rows L2 CR
local macro_rules | `(tactic| ktf_call "At") => `(tactic| with_reducible (repeat (first | exact CR.At.hd | apply CR.At.tl)))
local macro_rules | `(tactic| ktf_call "Up") => `(tactic| with_reducible (repeat (first | exact CR.UpF.hd | apply CR.UpF.tl)))
local macro_rules | `(tactic| ktf_call "Kd") => `(tactic| with_reducible (repeat (first | exact CR.Kd.hd | apply CR.Kd.tl)))
local macro_rules | `(tactic| ktf_call "KdV") => `(tactic| first | (refine Or.inl ?_; ktf_call "Kd"; done) | (refine Or.inr (Or.inl ?_); ktf_call "Kd"; done) | (refine Or.inr (Or.inr ?_); ktf_call "Kd"; done))
local macro_rules | `(tactic| ktf_call "KdL") => `(tactic| first | (refine Or.inl ?_; ktf_call "Kd"; done) | (refine Or.inr ?_; ktf_call "Kd"; done))
local macro_rules | `(tactic| ktf_call "side") => `(tactic| first | with_reducible assumption | omega | (simp only [List.length_nil, List.length_cons, List.length_append, List.length_map, List.length_take, List.length_drop]; omega) | decide)
local macro_rules | `(tactic| ktf_call "St") => `(tactic| first | with_reducible assumption | with_reducible exact CR.put_same | (with_reducible refine (CR.put_ne (by with_reducible assumption)).trans ?_; with_reducible assumption))
local macro_rules | `(tactic| ktf_call "C") => `(tactic| fail)
local macro_rules | `(tactic| ktf_call "O") => `(tactic| fail)
local macro_rules | `(tactic| ktf_call "E") => `(tactic| first
  | ((with_reducible show CR.wE _ _ _ (.Name _ _) _ _ _); refine CR.eN (by assumption) (by ktf_call "At") (by ktf_call "KdV") ?_)
  | refine CR.wE_int ?_
  | with_reducible refine CR.wE_sp ?_
  | with_reducible refine CR.wE_nl ?_
  | with_reducible refine CR.wE_em ?_
  | refine CR.wE_str ?_
  | refine CR.wE_bool ?_
  | refine CR.wE_none ?_
  | ((with_reducible show CR.wE _ _ _ (.Attribute (.Name _ _) _ _) _ _ _); refine Hd.eSelf (by assumption) (by with_reducible assumption) (by ktf_call "At") (by ktf_call "KdV") (by ktf_call "St") (by with_reducible constructor) ?_)
  | refine CR.wE_bin ?_
  | ((with_reducible show CR.wE _ _ _ (.Call (.Name _ _) _ _ _) _ _ _); refine CR.eCall (by assumption) (by with_reducible assumption) (by first | decide | omega) (by ktf_call "Kd") ?_)
  | ((with_reducible show CR.wE _ _ _ (.Call (.Name _ _) _ _ _) _ _ _); refine CR.eNew (by assumption) (by with_reducible assumption) (by first | decide | omega) (by ktf_call "Kd") ?_)
  | (((with_reducible show CR.wE _ _ _ (.Call (.Name _ _) _ _ _) _ _ _); refine CR.eIsX (by assumption) (by ktf_call "Kd") (by with_reducible assumption) ?_))
  | ((with_reducible show CR.wE _ _ _ (.Call (.Name _ _) _ _ _) _ _ _); refine CR.eBltS (by assumption) (by with_reducible constructor) (by ktf_call "Kd") (by with_reducible assumption) ?_)
  | ((with_reducible show CR.wE _ _ _ (.Call (.Name _ _) _ _ _) _ _ _); refine CR.eBtyS (by assumption) (by with_reducible constructor) (by ktf_call "Kd") (by with_reducible assumption) ?_)
  | ((with_reducible show CR.wE _ _ _ (.Name _ _) _ _ _); refine CR.eGlob (by assumption) (by with_reducible assumption) (by ktf_call "Kd") ?_)
  | refine CR.wE_cmp ?_
  | refine CR.eChain ?_
  | refine CR.wE_slice ?_
  | refine CR.wE_subS ?_
  | refine CR.wE_tup ?_
  | refine CR.wE_lst ?_
  | refine CR.wE_neg ?_
  | refine CR.wE_if ?_
  | ((with_reducible show CR.wE _ _ _ (.Call (.Attribute _ _ _) _ _ _) _ _ _); refine CR.wE_meth0 (by assumption) (by with_reducible assumption) (by first | decide | omega) ?_)
  | ((with_reducible show CR.wE _ _ _ (.Call (.Attribute _ _ _) _ _ _) _ _ _); refine CR.wE_meth (by assumption) (by with_reducible assumption) (by first | decide | omega) ?_)
  | ((with_reducible show CR.wE _ _ _ (.Attribute _ _ _) _ _ _); refine CR.wE_fld (by assumption) ?_)
  | with_reducible refine CR.put2E ?_)
local macro_rules | `(tactic| ktf_call "T") => `(tactic| first
  | refine CR.wT_cmp ?_
  | refine CR.tChain ?_
  | refine CR.wT_not ?_
  | refine CR.wT_val (by assumption) ?_)
local macro_rules | `(tactic| ktf_call "S") => `(tactic| first
  | refine CR.wS_ret ?_
  | refine CR.wS_if ?_
  | ((with_reducible show CR.wS _ _ _ (.Assign [.Attribute _ _ _] _ _) _ _ _); refine Hd.sSelf (by assumption) (by with_reducible assumption) (by ktf_call "At") (by ktf_call "KdV") ?_)
  | ((with_reducible show CR.wS _ _ _ (.Assign [.Name _ _] (.List _ _) _) _ _ _); refine CR.sOwn (es := []) (by assumption) (by ktf_call "Up") (by ktf_call "KdL") ?_)
  | ((with_reducible show CR.wS _ _ _ (.Expr (.Call (.Attribute _ _ _) _ _ _) _) _ _ _); refine CR.sApp (by assumption) (by ktf_call "At") (by ktf_call "Up") (by ktf_call "KdV") ?_)
  | ((with_reducible show CR.wS _ _ _ (.Expr (.Call (.Attribute _ _ _) _ _ _) _) _ _ _); refine CR.sExt (by assumption) (by ktf_call "At") (by ktf_call "Up") (by ktf_call "KdV") ?_)
  | ((with_reducible show CR.wS _ _ _ (.Assign [.Name _ _] _ _) _ _ _); refine CR.sSet (by assumption) (by ktf_call "Up") (by ktf_call "KdL") ?_)
  | ((with_reducible show CR.wS _ _ _ (.Raise _ _ _) _ _ _); refine CR.sRaise (by assumption) (by with_reducible assumption) (by ktf_call "Kd") ?_)
  | refine CR.wS_expr ?_
  | refine CR.wS_pass ?_
  | refine CR.wS_retN ?_)
local macro_rules | `(tactic| ktf_call "SS") => `(tactic| first
  | with_reducible refine CR.put2S ?_
  | refine CR.wSs_cons ?_
  | refine CR.wSs_nil ?_)
local macro_rules | `(tactic| ktf_call "OB") => `(tactic| first
  | ((with_reducible show CR.BltS _ _ _ _ [.str _] _); with_reducible refine CR.bltSR (CR.lenS (by ktf_call "side")) ?_) | ((with_reducible show CR.BltS _ _ _ _ [.lst _] _); with_reducible refine CR.bltSR (CR.lenL (by assumption)) ?_) | ((with_reducible show CR.BltS _ _ _ _ [.tup _] _); with_reducible refine CR.bltSR (CR.lenT (by assumption)) ?_)
  | ((with_reducible show CR.BltS _ _ _ _ [.ref _] _); with_reducible refine CR.lenR (by with_reducible assumption) (by ktf_call "St") ?_)
  | with_reducible refine CR.bltSR (CR.min2N (by assumption)) ?_ | with_reducible refine CR.bltSR (CR.max2N (by assumption)) ?_
  | with_reducible refine CR.bltSR (CR.ordS) ?_ | with_reducible refine CR.bltSR (CR.absI) ?_ | with_reducible refine CR.bltSR (CR.max2 (by assumption)) ?_ | with_reducible refine CR.bltSR (CR.min2 (by assumption)) ?_
  | with_reducible refine CR.bltSR (CR.copyL (by assumption)) ?_
  | with_reducible refine CR.bltSR (CR.intI) ?_ | with_reducible refine CR.bltSR (CR.intB) ?_)
local macro_rules | `(tactic| ktf_call "OS") => `(tactic| first
  | ((with_reducible show CR.SubS _ _ _ (.str _) _ _); with_reducible refine CR.subSR (CR.subSn (by ktf_call "side") (by ktf_call "side")) ?_) | ((with_reducible show CR.SubS _ _ _ (.str _) _ _); with_reducible refine CR.subSR (CR.subSi (by ktf_call "side") (by ktf_call "side") (by ktf_call "side")) ?_) | ((with_reducible show CR.SubS _ _ _ (.lst _) _ _); with_reducible refine CR.subSR (CR.subLn (by assumption) (by ktf_call "side")) ?_) | ((with_reducible show CR.SubS _ _ _ (.tup _) _ _); with_reducible refine CR.subSR (CR.subTn (by assumption) (by ktf_call "side")) ?_))
local macro_rules | `(tactic| ktf_call "OA") => `(tactic| first
  | with_reducible refine CR.opI (CR.addI) ?_ | with_reducible refine CR.opI (CR.subI) ?_ | ((with_reducible show ∃ z, CR.BinR _ _ _ (.str _) _ z ∧ _); with_reducible refine CR.opI (CR.addS (by ktf_call "side")) ?_)
  | ((with_reducible show ∃ z, CR.BinR _ _ .Mult _ _ z ∧ _); refine CR.opI (CR.mulA (by ktf_call "side") (by ktf_call "side")) ?_) | ((with_reducible show ∃ z, CR.BinR _ _ .FloorDiv _ _ z ∧ _); refine CR.opI (CR.divA (by ktf_call "side") (by ktf_call "side")) ?_) | ((with_reducible show ∃ z, CR.BinR _ _ .Mod _ _ z ∧ _); refine CR.opI (CR.modI (by ktf_call "side")) ?_))
local macro_rules | `(tactic| ktf_call "OC") => `(tactic| first
  | with_reducible refine CR.opI (CR.ltI) ?_ | with_reducible refine CR.opI (CR.leI) ?_ | with_reducible refine CR.opI (CR.gtI) ?_ | with_reducible refine CR.opI (CR.geI) ?_ | with_reducible refine CR.opI (CR.eqI) ?_ | with_reducible refine CR.opI (CR.neI) ?_
  | with_reducible refine CR.opI (CR.eqS) ?_ | with_reducible refine CR.opI (CR.neS) ?_ | with_reducible refine CR.opI (CR.isN) ?_ | with_reducible refine CR.opI (CR.notN) ?_ | with_reducible refine CR.opI (CR.inC) ?_ | with_reducible refine CR.opI (CR.leS) ?_)
local macro_rules | `(tactic| ktf_call "OL") => `(tactic| first
  | ((with_reducible show ∃ z, CR.SlcR _ _ (.str _) (some _) (some _) z ∧ _); with_reducible refine CR.opI (CR.slcN (by ktf_call "side") (by ktf_call "side") (by ktf_call "side")) ?_)
  | ((with_reducible show ∃ z, CR.SlcR _ _ (.str _) none _ z ∧ _); with_reducible refine CR.opI (CR.slcTo (by ktf_call "side") (by ktf_call "side")) ?_) | ((with_reducible show ∃ z, CR.SlcR _ _ (.str _) _ none z ∧ _); with_reducible refine CR.opI (CR.slcFrom (by ktf_call "side") (by ktf_call "side")) ?_) | ((with_reducible show ∃ z, CR.SlcR _ _ (.str _) _ _ z ∧ _); with_reducible refine CR.opI (CR.slcS (by ktf_call "side")) ?_) | with_reducible refine CR.opI (CR.slcL (by assumption)) ?_)
local macro_rules | `(tactic| ktf_call "AA") => `(tactic| first | refine CR.wA_nil ?_ | refine CR.wA_cons ?_ | with_reducible refine CR.put2A ?_)
local macro_rules | `(tactic| ktf_call "M") => `(tactic| first
  | ((with_reducible show CR.Recv _ _ _ _ ∧ _); with_reducible refine And.intro (Hd.recvS (by ktf_call "St") (by with_unfolding_all rfl)) ?_)
  | ((with_reducible show ∃ s d s', _ ∧ Hd.ShW s _ _ s' ∧ _); with_reducible refine Hd.shwO (by ktf_call "St") (by with_reducible constructor) ?_)
  | with_reducible refine CR.fldO (by with_reducible assumption) (by with_unfolding_all rfl) ?_
  | ((with_reducible show ∃ C' fs' d', ((∃ a, CR.D.ref _ = CR.D.ref a ∧ _) ∨ _) ∧ _); with_reducible refine CR.fldR (by ktf_call "St") (by with_reducible assumption) (by with_unfolding_all rfl) ?_)
  | with_reducible refine ⟨_, CR.TruD.bl _, ?_⟩
  | ((with_reducible show @LE.le _ _ _ _ ∧ _); with_reducible refine CR.and_le (by ktf_call "side") ?_) | ((with_reducible show @LT.lt _ _ _ _ ∧ _); with_reducible refine CR.and_lt (by ktf_call "side") ?_)
  | ((with_reducible apply CR.pureI); focus (intro Q q; ktf_call "go"; exact q))
  | with_reducible refine ⟨_, _, _, _, rfl, by assumption, by assumption, ?_⟩
  | ((with_reducible show CR.wE _ _ _ (.Call (.Attribute _ "append" _) _ _ _) _ _ _); refine CR.wE_bmS (by assumption) ?_)
  | ((with_reducible show ∃ T id, CR.MtId "append" T id ∧ _); refine ⟨_, _, CR.m_append, CR.tyRef (by ktf_call "St"), ?_⟩)
  | ((with_reducible show CR.MtdS _ _ "list.append" _ _ _ _); refine CR.appS (by ktf_call "St") (by ktf_call "side") ?_)
  | ((with_reducible show CR.wE _ _ _ (.Call (.Attribute _ "join" _) _ _ _) _ _ _); refine CR.wE_bm (by assumption) ?_)
  | ((with_reducible show ∃ T id, CR.MtId "join" T id ∧ _); refine ⟨_, _, CR.m_join, CR.tyStr, ?_⟩)
  | ((with_reducible show @LE.le Int _ _ _ ∧ _); with_reducible refine CR.and_leZ (by ktf_call "side") ?_)
  | refine CR.wP_none ?_ | (refine CR.wP_some ?_) | refine CR.opI rfl ?_)
local macro_rules | `(tactic| ktf_call "one") => `(tactic| first
  | (refine CR.isE ?_; ktf_call "E")
  | (refine CR.isA ?_; ktf_call "AA")
  | (refine CR.isBlt ?_; ktf_call "OB")
  | (refine CR.isSub ?_; ktf_call "OS")
  | (refine CR.isBin ?_; ktf_call "OA")
  | (refine CR.isCmp ?_; first | ktf_call "O" | ktf_call "OC")
  | (refine CR.isSlc ?_; ktf_call "OL"))
local macro_rules | `(tactic| ktf_call "goE") => `(tactic| repeat (first | ktf_call "one" | ktf_call "C" | ktf_call "M"))
local macro_rules | `(tactic| ktf_call "go") => `(tactic| repeat (first | (refine CR.isSs ?_; ktf_call "SS") | (refine CR.isS ?_; first | with_reducible refine CR.put2s ?_ | ktf_call "S") | ktf_call "one" | (refine CR.isT ?_; first | with_reducible refine CR.put2T ?_ | ktf_call "T") | ktf_call "C" | ktf_call "M"))
local macro_rules | `(tactic| ktf_call ("bz", $h:ident)) => `(tactic| simp only [Bool.and_eq_true, Bool.or_eq_true, Bool.not_eq_true', Bool.not_eq_false', decide_eq_true_eq, decide_eq_false_iff_not, Bool.and_eq_false_iff, Bool.or_eq_false_iff, Int.ofNat_lt, Int.ofNat_le, Int.natCast_inj, CR.s_blank, CR.s_nl, CR.s_empty, CR.str_one] at $h:ident)
local macro_rules | `(tactic| ktf_call "sl") => `(tactic| simp only [CR.wipeS, List.set_cons_succ, List.set_cons_zero])
local macro_rules | `(tactic| ktf_call ("sl", $h:ident)) => `(tactic| simp only [CR.wipeS, List.set_cons_succ, List.set_cons_zero] at $h:ident)

variable {Γ : Wd} {k : Nat} {f : Addr} {fd : FuncData}
theorem join_eq (c : Nat) : ∀ ps : List (List Nat), joinT [c] ps = joinN c ps
  | [] => rfl
  | [p] => rfl
  | p :: q :: r => by
    show p ++ [c] ++ joinT [c] (q :: r) = p ++ c :: joinN c (q :: r)
    rw [join_eq c (q :: r), List.append_assoc]
    rfl
theorem sum_ls : ∀ {ls : List Nat}, (∀ n ∈ ls, n ≤ 20) → ((ls.map xsR).map List.length).sum ≤ 20 * ls.length ∧ ((ls.map xsR).map fun x => x.length + 1).sum ≤ 21 * ls.length
  | [], _ => ⟨Nat.le_refl _, Nat.le_refl _⟩
  | n :: ls, h => by
    obtain ⟨ih1, ih2⟩ := sum_ls (ls := ls) fun x hx => h x (List.mem_cons_of_mem _ hx)
    have hn := h n List.mem_cons_self
    simp only [List.map_cons, List.sum_cons, List.length_cons, xsR_len]
    omega
theorem tx_le {ls : List Nat} (h : ∀ n ∈ ls, n ≤ 20) : (txR ls).length ≤ 21 * ls.length := by
  cases ls with
  | nil => exact Nat.le_refl _
  | cons n r =>
    have h1 := join_len 10 ((n :: r).map xsR) (by simp)
    have h2 := (sum_ls h).2
    show (joinN 10 ((n :: r).map xsR)).length ≤ _
    omega
theorem join_ok : ∀ ps : List (List Nat), (∀ p ∈ ps, p.all okS = true) → (joinN 10 ps).all okS = true
  | [], _ => rfl
  | [p], h => h p List.mem_cons_self
  | p :: q :: r, h => by
    show (p ++ 10 :: joinN 10 (q :: r)).all okS = true
    rw [List.all_append, h p List.mem_cons_self, List.all_cons, join_ok (q :: r) fun x hx => h x (List.mem_cons_of_mem _ hx)]
    decide
theorem tx_ok (ls : List Nat) : (txR ls).all okS = true := join_ok _ fun p hp => by
  obtain ⟨n, _, rfl⟩ := List.mem_map.mp hp
  exact List.all_eq_true.mpr fun c hc => by rw [List.eq_of_mem_replicate hc]; decide
theorem sum_st : ∀ {ls : List Nat} {j : Nat}, ((ls.take j).map fun m => (((xsR m).length : Nat) : Int) + 1).sum = ((stR ls j : Nat) : Int) := fun {ls j} => by
  unfold stR
  generalize ls.take j = r
  induction r with
  | nil => rfl
  | cons n r ih =>
    rw [List.map_cons, List.sum_cons, ih, List.map_cons, List.sum_cons, xsR_len]
    omega
theorem W1.fresh {cS : Addr} {S : Sto} {a : Addr} {m : Nat} {p d q : Addr} {s : Sh} {o : Ob} (W : W1 cS S a m p d s) (hq : S q = none) : W1 cS (put S q o) a m p d s :=
  ⟨by rw [put_ne (ne_some W.t hq)]; exact W.t, by rw [put_ne (ne_some W.p hq)]; exact W.p, by rw [put_ne (ne_some W.d hq)]; exact W.d⟩
theorem many_at {h : Nat} {m : Mv} (hm : m.vert = true) : valD (mergeKD [] [(.inr "up", .int (-1)), (.inr "down", .int 1), (.inr "pageup", .int (0 - (h : Int))), (.inr "pagedown", .int (h : Nat))]) (.inr ⟨(mvS m).toArray⟩) = some (.int (m.many h)) := by
  cases m <;> first
    | cases hm; done
    | rfl
    | (rw [show Mv.many h .pageup = 0 - (h : Int) by simp only [Mv.many]; omega]; rfl)
/-- where one is, what one wishes -/
structure K23 (cS : Addr) (ls : List Nat) (h co : Nat) (S : Sto) (a : Addr) (m : Nat) (p d : Addr) (g : Nat) (s : Sh) (c : Nat) : Prop where
  w : W1 cS S a m p d s
  hf : ShI s
  at_ : AtW ls h s g c
  ws : s.wish.getD c = co
  cc : c = min co (ls.getD g 0) ∨ c = 0 ∨ c = ls.getD g 0
theorem K23.step {cS : Addr} {ls : List Nat} {h co : Nat} {S : Sto} {a : Addr} {m : Nat} {p d : Addr} {g : Nat} {s : Sh} {c : Nat} (H : K23 cS ls h co S a m p d g s c) {mv : Mv} (hm : mv.vert = true) (g2 : Nat) (hg : (g2 : Int) = min (max 0 ((g : Int) + mv.many h)) ((ls.length : Int) - 1)) : K23 cS ls h co (put S p (insS cS (s.move mv false) d)) a m p d g2 (s.move mv false) (if g2 = g then (if mv.many h < 0 then 0 else ls.getD g 0) else min co (ls.getD g2 0)) := by
  obtain ⟨A, w⟩ := H.at_.step hm g2 hg
  rw [H.ws] at A w
  refine ⟨H.w.mv mv false, mv_fin H.hf mv false, A, by rw [w]; rfl, ?_⟩
  by_cases e : g2 = g
  · subst e
    rw [if_pos rfl]
    split
    · exact .inr (.inl rfl)
    · exact .inr (.inr rfl)
  · rw [if_neg e]
    exact .inl rfl
theorem ni3 {c x y z : Int} (h : c = x ∨ c = y ∨ c = z) : (!([D.int x, .int y, .int z].any fun d => eqF d (.int c))) = false := by
  rcases h with rfl | rfl | rfl <;> simp [eqF]
theorem pu3 (i j l : Int) : Pu 1 (.tup [.int i, .int j, .int l]) := .tup fun x hx => by
  simp only [List.mem_cons, List.not_mem_nil, or_false] at hx
  rcases hx with h | h | h <;> (subst h; exact .int _)
end Hd

end

section
namespace Hd
open PySem PySem.Spec PyProof.Rows L2 CR
local macro_rules | `(tactic| ktf_call "At") => `(tactic| with_reducible (repeat (first | exact CR.At.hd | apply CR.At.tl)))
local macro_rules | `(tactic| ktf_call "Up") => `(tactic| with_reducible (repeat (first | exact CR.UpF.hd | apply CR.UpF.tl)))
local macro_rules | `(tactic| ktf_call "Kd") => `(tactic| with_reducible (repeat (first | exact CR.Kd.hd | apply CR.Kd.tl)))
local macro_rules | `(tactic| ktf_call "KdV") => `(tactic| first | (refine Or.inl ?_; ktf_call "Kd"; done) | (refine Or.inr (Or.inl ?_); ktf_call "Kd"; done) | (refine Or.inr (Or.inr ?_); ktf_call "Kd"; done))
local macro_rules | `(tactic| ktf_call "KdL") => `(tactic| first | (refine Or.inl ?_; ktf_call "Kd"; done) | (refine Or.inr ?_; ktf_call "Kd"; done))
local macro_rules | `(tactic| ktf_call "side") => `(tactic| first | with_reducible assumption | omega | (simp only [List.length_nil, List.length_cons, List.length_append, List.length_map, List.length_take, List.length_drop]; omega) | decide)
local macro_rules | `(tactic| ktf_call "St") => `(tactic| first | with_reducible assumption | with_reducible exact CR.put_same | (with_reducible refine (CR.put_ne (by with_reducible assumption)).trans ?_; with_reducible assumption))
local macro_rules | `(tactic| ktf_call "C") => `(tactic| fail)
local macro_rules | `(tactic| ktf_call "O") => `(tactic| fail)
local macro_rules | `(tactic| ktf_call "E") => `(tactic| first
  | ((with_reducible show CR.wE _ _ _ (.Name _ _) _ _ _); refine CR.eN (by assumption) (by ktf_call "At") (by ktf_call "KdV") ?_)
  | refine CR.wE_int ?_
  | with_reducible refine CR.wE_sp ?_
  | with_reducible refine CR.wE_nl ?_
  | with_reducible refine CR.wE_em ?_
  | refine CR.wE_str ?_
  | refine CR.wE_bool ?_
  | refine CR.wE_none ?_
  | ((with_reducible show CR.wE _ _ _ (.Attribute (.Name _ _) _ _) _ _ _); refine Hd.eSelf (by assumption) (by with_reducible assumption) (by ktf_call "At") (by ktf_call "KdV") (by ktf_call "St") (by with_reducible constructor) ?_)
  | refine CR.wE_bin ?_
  | ((with_reducible show CR.wE _ _ _ (.Call (.Name _ _) _ _ _) _ _ _); refine CR.eCall (by assumption) (by with_reducible assumption) (by first | decide | omega) (by ktf_call "Kd") ?_)
  | ((with_reducible show CR.wE _ _ _ (.Call (.Name _ _) _ _ _) _ _ _); refine CR.eNew (by assumption) (by with_reducible assumption) (by first | decide | omega) (by ktf_call "Kd") ?_)
  | (((with_reducible show CR.wE _ _ _ (.Call (.Name _ _) _ _ _) _ _ _); refine CR.eIsX (by assumption) (by ktf_call "Kd") (by with_reducible assumption) ?_))
  | ((with_reducible show CR.wE _ _ _ (.Call (.Name _ _) _ _ _) _ _ _); refine CR.eBltS (by assumption) (by with_reducible constructor) (by ktf_call "Kd") (by with_reducible assumption) ?_)
  | ((with_reducible show CR.wE _ _ _ (.Call (.Name _ _) _ _ _) _ _ _); refine CR.eBtyS (by assumption) (by with_reducible constructor) (by ktf_call "Kd") (by with_reducible assumption) ?_)
  | ((with_reducible show CR.wE _ _ _ (.Name _ _) _ _ _); refine CR.eGlob (by assumption) (by with_reducible assumption) (by ktf_call "Kd") ?_)
  | refine CR.wE_cmp ?_
  | refine CR.eChain ?_
  | refine CR.wE_slice ?_
  | refine CR.wE_subS ?_
  | refine CR.wE_tup ?_
  | refine CR.wE_lst ?_
  | refine CR.wE_neg ?_
  | refine CR.wE_if ?_
  | ((with_reducible show CR.wE _ _ _ (.Call (.Attribute _ _ _) _ _ _) _ _ _); refine CR.wE_meth0 (by assumption) (by with_reducible assumption) (by first | decide | omega) ?_)
  | ((with_reducible show CR.wE _ _ _ (.Call (.Attribute _ _ _) _ _ _) _ _ _); refine CR.wE_meth (by assumption) (by with_reducible assumption) (by first | decide | omega) ?_)
  | ((with_reducible show CR.wE _ _ _ (.Attribute _ _ _) _ _ _); refine CR.wE_fld (by assumption) ?_)
  | with_reducible refine CR.put2E ?_)
local macro_rules | `(tactic| ktf_call "T") => `(tactic| first
  | refine CR.wT_cmp ?_
  | refine CR.tChain ?_
  | refine CR.wT_not ?_
  | refine CR.wT_val (by assumption) ?_)
local macro_rules | `(tactic| ktf_call "S") => `(tactic| first
  | refine CR.wS_ret ?_
  | refine CR.wS_if ?_
  | ((with_reducible show CR.wS _ _ _ (.Assign [.Attribute _ _ _] _ _) _ _ _); refine Hd.sSelf (by assumption) (by with_reducible assumption) (by ktf_call "At") (by ktf_call "KdV") ?_)
  | ((with_reducible show CR.wS _ _ _ (.Assign [.Name _ _] (.List _ _) _) _ _ _); refine CR.sOwn (es := []) (by assumption) (by ktf_call "Up") (by ktf_call "KdL") ?_)
  | ((with_reducible show CR.wS _ _ _ (.Expr (.Call (.Attribute _ _ _) _ _ _) _) _ _ _); refine CR.sApp (by assumption) (by ktf_call "At") (by ktf_call "Up") (by ktf_call "KdV") ?_)
  | ((with_reducible show CR.wS _ _ _ (.Expr (.Call (.Attribute _ _ _) _ _ _) _) _ _ _); refine CR.sExt (by assumption) (by ktf_call "At") (by ktf_call "Up") (by ktf_call "KdV") ?_)
  | ((with_reducible show CR.wS _ _ _ (.Assign [.Name _ _] _ _) _ _ _); refine CR.sSet (by assumption) (by ktf_call "Up") (by ktf_call "KdL") ?_)
  | ((with_reducible show CR.wS _ _ _ (.Raise _ _ _) _ _ _); refine CR.sRaise (by assumption) (by with_reducible assumption) (by ktf_call "Kd") ?_)
  | refine CR.wS_expr ?_
  | refine CR.wS_pass ?_
  | refine CR.wS_retN ?_)
local macro_rules | `(tactic| ktf_call "SS") => `(tactic| first
  | with_reducible refine CR.put2S ?_
  | refine CR.wSs_cons ?_
  | refine CR.wSs_nil ?_)
local macro_rules | `(tactic| ktf_call "OB") => `(tactic| first
  | ((with_reducible show CR.BltS _ _ _ _ [.str _] _); with_reducible refine CR.bltSR (CR.lenS (by ktf_call "side")) ?_) | ((with_reducible show CR.BltS _ _ _ _ [.lst _] _); with_reducible refine CR.bltSR (CR.lenL (by assumption)) ?_) | ((with_reducible show CR.BltS _ _ _ _ [.tup _] _); with_reducible refine CR.bltSR (CR.lenT (by assumption)) ?_)
  | ((with_reducible show CR.BltS _ _ _ _ [.ref _] _); with_reducible refine CR.lenR (by with_reducible assumption) (by ktf_call "St") ?_)
  | with_reducible refine CR.bltSR (CR.min2N (by assumption)) ?_ | with_reducible refine CR.bltSR (CR.max2N (by assumption)) ?_
  | with_reducible refine CR.bltSR (CR.ordS) ?_ | with_reducible refine CR.bltSR (CR.absI) ?_ | with_reducible refine CR.bltSR (CR.max2 (by assumption)) ?_ | with_reducible refine CR.bltSR (CR.min2 (by assumption)) ?_
  | with_reducible refine CR.bltSR (CR.copyL (by assumption)) ?_
  | with_reducible refine CR.bltSR (CR.intI) ?_ | with_reducible refine CR.bltSR (CR.intB) ?_)
local macro_rules | `(tactic| ktf_call "OS") => `(tactic| first
  | ((with_reducible show CR.SubS _ _ _ (.str _) _ _); with_reducible refine CR.subSR (CR.subSn (by ktf_call "side") (by ktf_call "side")) ?_) | ((with_reducible show CR.SubS _ _ _ (.str _) _ _); with_reducible refine CR.subSR (CR.subSi (by ktf_call "side") (by ktf_call "side") (by ktf_call "side")) ?_) | ((with_reducible show CR.SubS _ _ _ (.lst _) _ _); with_reducible refine CR.subSR (CR.subLn (by assumption) (by ktf_call "side")) ?_) | ((with_reducible show CR.SubS _ _ _ (.tup _) _ _); with_reducible refine CR.subSR (CR.subTn (by assumption) (by ktf_call "side")) ?_))
local macro_rules | `(tactic| ktf_call "OA") => `(tactic| first
  | with_reducible refine CR.opI (CR.addI) ?_ | with_reducible refine CR.opI (CR.subI) ?_ | ((with_reducible show ∃ z, CR.BinR _ _ _ (.str _) _ z ∧ _); with_reducible refine CR.opI (CR.addS (by ktf_call "side")) ?_)
  | ((with_reducible show ∃ z, CR.BinR _ _ .Mult _ _ z ∧ _); refine CR.opI (CR.mulA (by ktf_call "side") (by ktf_call "side")) ?_) | ((with_reducible show ∃ z, CR.BinR _ _ .FloorDiv _ _ z ∧ _); refine CR.opI (CR.divA (by ktf_call "side") (by ktf_call "side")) ?_) | ((with_reducible show ∃ z, CR.BinR _ _ .Mod _ _ z ∧ _); refine CR.opI (CR.modI (by ktf_call "side")) ?_))
local macro_rules | `(tactic| ktf_call "OC") => `(tactic| first
  | with_reducible refine CR.opI (CR.ltI) ?_ | with_reducible refine CR.opI (CR.leI) ?_ | with_reducible refine CR.opI (CR.gtI) ?_ | with_reducible refine CR.opI (CR.geI) ?_ | with_reducible refine CR.opI (CR.eqI) ?_ | with_reducible refine CR.opI (CR.neI) ?_
  | with_reducible refine CR.opI (CR.eqS) ?_ | with_reducible refine CR.opI (CR.neS) ?_ | with_reducible refine CR.opI (CR.isN) ?_ | with_reducible refine CR.opI (CR.notN) ?_ | with_reducible refine CR.opI (CR.inC) ?_ | with_reducible refine CR.opI (CR.leS) ?_)
local macro_rules | `(tactic| ktf_call "OL") => `(tactic| first
  | ((with_reducible show ∃ z, CR.SlcR _ _ (.str _) (some _) (some _) z ∧ _); with_reducible refine CR.opI (CR.slcN (by ktf_call "side") (by ktf_call "side") (by ktf_call "side")) ?_)
  | ((with_reducible show ∃ z, CR.SlcR _ _ (.str _) none _ z ∧ _); with_reducible refine CR.opI (CR.slcTo (by ktf_call "side") (by ktf_call "side")) ?_) | ((with_reducible show ∃ z, CR.SlcR _ _ (.str _) _ none z ∧ _); with_reducible refine CR.opI (CR.slcFrom (by ktf_call "side") (by ktf_call "side")) ?_) | ((with_reducible show ∃ z, CR.SlcR _ _ (.str _) _ _ z ∧ _); with_reducible refine CR.opI (CR.slcS (by ktf_call "side")) ?_) | with_reducible refine CR.opI (CR.slcL (by assumption)) ?_)
local macro_rules | `(tactic| ktf_call "AA") => `(tactic| first | refine CR.wA_nil ?_ | refine CR.wA_cons ?_ | with_reducible refine CR.put2A ?_)
local macro_rules | `(tactic| ktf_call "M") => `(tactic| first
  | ((with_reducible show CR.Recv _ _ _ _ ∧ _); with_reducible refine And.intro (Hd.recvS (by ktf_call "St") (by with_unfolding_all rfl)) ?_)
  | ((with_reducible show ∃ s d s', _ ∧ Hd.ShW s _ _ s' ∧ _); with_reducible refine Hd.shwO (by ktf_call "St") (by with_reducible constructor) ?_)
  | with_reducible refine CR.fldO (by with_reducible assumption) (by with_unfolding_all rfl) ?_
  | ((with_reducible show ∃ C' fs' d', ((∃ a, CR.D.ref _ = CR.D.ref a ∧ _) ∨ _) ∧ _); with_reducible refine CR.fldR (by ktf_call "St") (by with_reducible assumption) (by with_unfolding_all rfl) ?_)
  | with_reducible refine ⟨_, CR.TruD.bl _, ?_⟩
  | ((with_reducible show @LE.le _ _ _ _ ∧ _); with_reducible refine CR.and_le (by ktf_call "side") ?_) | ((with_reducible show @LT.lt _ _ _ _ ∧ _); with_reducible refine CR.and_lt (by ktf_call "side") ?_)
  | ((with_reducible apply CR.pureI); focus (intro Q q; ktf_call "go"; exact q))
  | with_reducible refine ⟨_, _, _, _, rfl, by assumption, by assumption, ?_⟩
  | ((with_reducible show CR.wE _ _ _ (.Call (.Attribute _ "append" _) _ _ _) _ _ _); refine CR.wE_bmS (by assumption) ?_)
  | ((with_reducible show ∃ T id, CR.MtId "append" T id ∧ _); refine ⟨_, _, CR.m_append, CR.tyRef (by ktf_call "St"), ?_⟩)
  | ((with_reducible show CR.MtdS _ _ "list.append" _ _ _ _); refine CR.appS (by ktf_call "St") (by ktf_call "side") ?_)
  | ((with_reducible show CR.wE _ _ _ (.Call (.Attribute _ "join" _) _ _ _) _ _ _); refine CR.wE_bm (by assumption) ?_)
  | ((with_reducible show ∃ T id, CR.MtId "join" T id ∧ _); refine ⟨_, _, CR.m_join, CR.tyStr, ?_⟩)
  | ((with_reducible show @LE.le Int _ _ _ ∧ _); with_reducible refine CR.and_leZ (by ktf_call "side") ?_)
  | refine CR.wP_none ?_ | (refine CR.wP_some ?_) | refine CR.opI rfl ?_)
local macro_rules | `(tactic| ktf_call "one") => `(tactic| first
  | (refine CR.isE ?_; ktf_call "E")
  | (refine CR.isA ?_; ktf_call "AA")
  | (refine CR.isBlt ?_; ktf_call "OB")
  | (refine CR.isSub ?_; ktf_call "OS")
  | (refine CR.isBin ?_; ktf_call "OA")
  | (refine CR.isCmp ?_; first | ktf_call "O" | ktf_call "OC")
  | (refine CR.isSlc ?_; ktf_call "OL"))
local macro_rules | `(tactic| ktf_call "goE") => `(tactic| repeat (first | ktf_call "one" | ktf_call "C" | ktf_call "M"))
local macro_rules | `(tactic| ktf_call "go") => `(tactic| repeat (first | (refine CR.isSs ?_; ktf_call "SS") | (refine CR.isS ?_; first | with_reducible refine CR.put2s ?_ | ktf_call "S") | ktf_call "one" | (refine CR.isT ?_; first | with_reducible refine CR.put2T ?_ | ktf_call "T") | ktf_call "C" | ktf_call "M"))
local macro_rules | `(tactic| ktf_call ("bz", $h:ident)) => `(tactic| simp only [Bool.and_eq_true, Bool.or_eq_true, Bool.not_eq_true', Bool.not_eq_false', decide_eq_true_eq, decide_eq_false_iff_not, Bool.and_eq_false_iff, Bool.or_eq_false_iff, Int.ofNat_lt, Int.ofNat_le, Int.natCast_inj, CR.s_blank, CR.s_nl, CR.s_empty, CR.str_one] at $h:ident)
local macro_rules | `(tactic| ktf_call "sl") => `(tactic| simp only [CR.wipeS, List.set_cons_succ, List.set_cons_zero])
local macro_rules | `(tactic| ktf_call ("sl", $h:ident)) => `(tactic| simp only [CR.wipeS, List.set_cons_succ, List.set_cons_zero] at $h:ident)

variable {Γ : Wd} {k : Nat} {f : Addr} {fd : FuncData}
inductive spLaw : FnS
  | mk {ns : List Int} {S : Sto} {Q : D → Sto → Prop} {E : Addr → Sto → Prop} (q : ∀ S', Q (.bl true) S') : spLaw [.scr ns] S Q E
abbrev rowsD (ls : List Nat) : D := .lst (ls.map fun n => D.str (xsR n))
theorem cutD_to {s : List D} {b : Nat} (h : b ≤ s.length) : CR.cutD s none (some (b : Int)) = s.take b := by
  unfold CR.cutD
  rw [HT.sIx_nat, HT.sIx_none, Nat.min_eq_left h]
  rfl
theorem subRow {X : Cx} {B : Bs} {N : List Str} {nm : List (Str × NameKind)} {E : EK} {S : Sto} {ls : List Nat} {j : Nat} {P : D → Sto → Prop} (G : Gd Γ X N nm k B E) (h : j < ls.length) (q : P (.str (xsR (ls.getD j 0))) S) : SubS Γ X S (rowsD ls) (.int (j : Nat)) P := by
  refine subSR (subLn G (by rw [List.length_map]; exact h)) ?_
  rw [show (ls.map fun n => D.str (xsR n)).getD j .non = D.str (xsR (ls.getD j 0)) by
    rw [List.getD_eq_getElem?_getD, List.getD_eq_getElem?_getD, List.getElem?_map, List.getElem?_eq_getElem h]
    rfl]
  exact q
local macro_rules | `(tactic| ktf_call "OS") => `(tactic| first | ((with_reducible show CR.SubS _ _ _ (.lst (List.map (fun n => CR.D.str (CR.xsR n)) _)) _ _); refine Hd.subRow (by assumption) (by with_reducible assumption) ?_) | with_reducible refine Hd.subT_0 (by assumption) ?_ | with_reducible refine Hd.subT_1 (by assumption) ?_ | with_reducible refine Hd.subT_2 (by assumption) ?_)
local macro_rules | `(tactic| ktf_call "OL") => `(tactic| first | ((with_reducible show ∃ z, CR.SlcR _ _ (.tup _) _ _ z ∧ _); refine CR.opI (CR.slcTA (by assumption)) ?_))
local macro_rules | `(tactic| ktf_call "C") => `(tactic| first | (show spDraw _ _ _ _; refine spDraw.mk (by ktf_call "St") (by ktf_call "side") (by ktf_call "side") ?_) | (show spPick _ _ _ _; refine spPick.mk (by ktf_call "St") (by ktf_call "side") (by exact List.cons_ne_nil _ _) ?_) | (show spSAt _ _ _ _ _; refine spSAt.mk (by ktf_call "St") (by with_reducible assumption) ?_))
theorem ok_law {cS cT cZ cP cM : Addr} (F : FnL Γ "law" s_law f fd) (l_draw : Fn Γ "_law_draw" 3 spDraw) (l_pick : Fn Γ "_law_pick" 4 spPick) (h_Sheet : Cn Γ "Sheet" cS 3 (spSInit cS cT cZ)) (hs_at : Mt Γ cS "at" 7 (spSAt cS)) (hs_go : Mt Γ cS "go" 9 (spSGo cS cP)) (hs_move : Mt Γ cS "move" 10 (spSMove cS cM))
    (b_range : Γ.mg "range" = none) (b_len : Γ.mg "len" = none) (b_sum : Γ.mg "sum" = none) (b_min : Γ.mg "min" = none) (b_max : Γ.mg "max" = none) : OkD Γ 11 f fd ["_law_script"] spLaw := by
  refine okD F sc_law nm_law (by decide +kernel) (fun ds S Q E h => by cases h; rfl) (fun X B ds Q E G h => ?_)
  have Gg := G.g
  cases h with
  | @mk ns _ _ _ q =>
    show wSs Γ X B _ [.val (.scr ns), .no, .no, .no, .no, .no, .no, .no, .no, .no, .no, .no, .no, .no, .no] B.S _
    refine wSs_cons (sTown G (by ktf_call "Up") (by ktf_call "KdL") (fun a ha => ?_))
    have hT0 : put B.S a (.lst []) a = some (.lst (zs 0)) := put_same
    refine wSs_cons (wS_lc G [("_law_k", 2)] (by decide +kernel) (i := 3) rfl ((by ktf_call "Kd" : CR.Kd _ _ _).lk Gg.uq) (by rfl) (by decide +kernel) (iR1Z Gg (by ktf_call "Kd") b_range ?_))
    ktf_call "goE"
    intro n hn
    refine opI addI ?_
    rw [show (1 : Int) + (n : Int) = ((1 + n : Nat) : Int) by omega]
    ktf_call "goE"
    rw [show (((1 + n : Nat) : Int)).toNat = 1 + n by omega]
    refine lcV2 (nmb := nb_law_0) (i := 2) (fun pre acc S' => ∃ (ls : List Nat), acc = (ls.map fun n => D.str (xsR n)) ∧ ls.length = pre.length ∧ (∀ n ∈ ls, n ≤ 20) ∧ S' a = some (.lst (zs (1 + pre.length)))) [2] rfl (by rfl) rfl (by decide) (by ktf_call "Kd") (by rw [List.length_range]; omega) ⟨[], rfl, rfl, fun _ h => (by cases h), put_same⟩ ?c1 ?c2
    case c1 =>
      rintro y pre post acc hxs S' ⟨ls, rfl, h1, h2, hT⟩ Xb Gb
      obtain ⟨hy1, hy2⟩ := range_split hxs
      ktf_call "sl"
      ktf_call "goE"
      intro d hd
      obtain ⟨c, rfl, hc⟩ : ∃ c : Nat, d = .int (c : Nat) ∧ c ≤ 20 := by
        simp only [List.mem_cons, List.not_mem_nil, or_false] at hd
        rcases hd with rfl | rfl | rfl | rfl | rfl
        · exact ⟨0, rfl, by decide⟩
        · exact ⟨1, rfl, by decide⟩
        · exact ⟨3, rfl, by decide⟩
        · exact ⟨8, rfl, by decide⟩
        · exact ⟨20, rfl, by decide⟩
      refine opI (mulSA (c := 120) (n := c) (by omega)) ?_
      refine ⟨ls ++ [c], by rw [List.map_append]; rfl, by rw [List.length_append, List.length_append, h1]; rfl, fun m hm => ?_, ?_⟩
      · rcases List.mem_append.mp hm with z | z
        · exact h2 m z
        · rw [List.mem_singleton.mp z]; exact hc
      · rw [List.length_append, List.length_singleton]
        exact put_same
    case c2 =>
      rintro acc S1 ⟨ls, rfl, h1, h2, hT⟩
      rw [List.length_range] at h1 hT
      clear hT0
      rw [show (ls.map fun n => D.str (xsR n)) = (ls.map xsR).map D.str by rw [List.map_map]; rfl]
      ktf_call "sl"
      refine wSs_cons (sSet G (by ktf_call "Up") (by ktf_call "KdL") ?_)
      ktf_call "goE"
      refine opI (joinD Gg ?_) ?_
      · have := (sum_ls h2).1
        rw [List.length_map]
        show _ + _ * 1 ≤ _
        omega
      have hne : ls ≠ [] := fun z => by rw [z] at h1; simp at h1; omega
      rw [join_eq, show joinN 10 (ls.map xsR) = txR ls from rfl, show (ls.map xsR).map D.str = ls.map fun n => D.str (xsR n) by rw [List.map_map]; rfl]
      have hll : ls.length ≤ 9 := by omega
      have htl : (txR ls).length ≤ 189 := by have := tx_le h2; omega
      have hit : isTextB (txR ls) = true := isText_of (by omega) (tx_ok ls)
      have hln : 1 ≤ ls.length := by omega
      have hn100 : ∀ n ∈ ls, n ≤ 100 := fun n hn => by have := h2 n hn; omega
      clear h1
      ktf_call "go"
      intro n2 hn2
      obtain ⟨h, hh, hh1, hh2⟩ : ∃ h : Nat, (1 : Int) + (n2 : Int) = (h : Int) ∧ 1 ≤ h ∧ h ≤ 4 := ⟨1 + n2, by omega, by omega, by omega⟩
      refine opI addI ?_
      rw [hh]
      ktf_call "goE"
      ktf_call "go"
      intro p hp _
      refine initCall hp hit ⟨by decide, by decide⟩ ⟨by omega, by omega⟩ (fun d hd hpd => ⟨rfl, ?_⟩)
      rw [Int.toNat_natCast, show (100 : Int).toNat = 100 from rfl]
      have W := W1.mk0 (cS := cS) (Sh.new (txR ls) 100 h) put_same hp hd hpd
      have hf := new_fin hit (by decide : 2 ≤ 100) (by decide : 100 ≤ 200) hh1 (by omega : h ≤ 100)
      have hmk := fun {k c : Nat} => AtW.mk0 (t := txR ls) (n := 0) (h := h) hne hn100 hh1 (k := k) (c := c)
      have hnow : (Sh.new (txR ls) 100 h).now = txR ls := rfl
      clear hT
      generalize Sh.new (txR ls) 100 h = s at W hf hmk hnow ⊢
      generalize putM cS _ p d s = S3 at W ⊢
      have hT := W.t
      have hP := W.p
      ktf_call "go"
      intro nu hnu
      rw [List.length_map] at hnu
      have hnu : nu < ls.length := by omega
      have hx20 : ∀ j, j < ls.length → (xsR (ls.getD j 0)).length = ls.getD j 0 ∧ ls.getD j 0 ≤ 20 := fun j hj => ⟨xsR_len _, by
        rw [List.getD_eq_getElem?_getD, List.getElem?_eq_getElem hj]
        exact h2 _ (List.getElem_mem hj)⟩
      obtain ⟨hxa, hxb⟩ := hx20 nu hnu
      refine wSs_cons (sSet G (by ktf_call "Up") (by ktf_call "KdL") ?_)
      ktf_call "goE"
      intro co hco
      have hco : co ≤ ls.getD nu 0 := by omega
      replace W := W.tw (1 + (1 + n) + 1 + 1 + 1)
      clear hT hP
      rw [put_put]
      generalize put S3 a _ = S4 at W ⊢
      have hT := W.t
      have hP := W.p
      refine wSs_cons (sSet G (by ktf_call "Up") (by ktf_call "KdL") ?_)
      ktf_call "goE"
      refine wSs_cons (wS_expr ?_)
      ktf_call "goE"
      refine wE_lc Gg [("_law_row", 14)] (by decide +kernel) (wI_lst Gg ?_)
      ktf_call "goE"
      rw [cutD_to (by rw [List.length_map]; omega), ← List.map_take]
      refine lcM2 (nmb := nb_law_1) (i := 14) (g := fun n => D.str (xsR n)) (h := fun m => .int (((xsR m).length : Nat) + 1)) [14] rfl (by rfl) rfl (by decide) (by ktf_call "Kd") (by rw [List.length_take]; omega) ?d1 ?d2
      case d1 =>
        intro m hm Xb Gb Q' q'
        have hm20 := h2 m (List.mem_of_mem_take hm)
        have hml := xsR_len m
        ktf_call "sl"
        ktf_call "goE"
        exact q'
      case d2 =>
        rw [show ((ls.take nu).map fun m => D.int (((xsR m).length : Nat) + 1)) = ((ls.take nu).map fun m => (((xsR m).length : Nat) : Int) + 1).map D.int by rw [List.map_map]; rfl]
        ktf_call "goE"
        refine bltSR (sumL Gg) ?_
        ktf_call "goE"
        rw [sum_st, show ((stR ls nu : Nat) : Int) + ((co : Nat) : Int) = ((stR ls nu + co : Nat) : Int) by omega]
        ktf_call "goE"
        refine goCall W.p hf.ok (by rw [hnow]; have := (seg_x hnu).1; omega) ?_
        obtain ⟨A, hwi⟩ := hmk hnu hco
        have H : K23 cS ls h co (put S4 p (insS cS (s.go (stR ls nu + co)) d)) a (1 + (1 + n) + 1 + 1 + 1) p d nu (s.go (stR ls nu + co)) co := ⟨W.gone _, go_fin hf (by rw [hnow]; have := (seg_x hnu).1; omega), A, by rw [hwi]; rfl, .inl (by omega)⟩
        clear hmk hnow hwi A W hf hT hP
        generalize s.go (stR ls nu + co) = s1 at H ⊢
        generalize put S4 p _ = S5 at H ⊢
        have hT := H.w.t
        have hP := H.w.p
        ktf_call "go"
        refine wS_for Gg [2] (iR1 Gg (by ktf_call "Kd") b_range ?_)
        ktf_call "goE"
        intro n3 hn3
        ktf_call "goE"
        replace H : K23 cS ls h co (put S5 a (.lst (zs (1 + (1 + n) + 1 + 1 + 1 + 1)))) a (1 + (1 + n) + 1 + 1 + 1 + 1) p d nu s1 co := ⟨H.w.tw _, H.hf, H.at_, H.ws, H.cc⟩
        clear hT hP
        refine forQ (g := fun i => D.int (i : Nat)) (fun pre ρ S => ∃ (s2 s10 s11 s12 s13 : Sl) (s : Sh) (m' g c : Nat), ρ = [.val (.scr ns), .val (.ref a), s2, .val (rowsD ls), .val (.str (txR ls)), .val (.int (h : Nat)), .val (.ref p), .val (.int (g : Nat)), .val (.int (co : Nat)), .val (.tup [.int (nu : Nat), .int (co : Nat)]), s10, s11, s12, s13, .no] ∧ K23 cS ls h co S a m' p d g s c ∧ m' ≤ 20 + pre.length) ⟨_, _, _, _, _, s1, _, nu, co, rfl, H, by simp only [List.length_nil]; omega⟩ (fun y pre post ρ' S' hxs hW => ?_) (fun ρ' S' hW => ?_)
        · clear H s1
          obtain ⟨s2, s10, s11, s12, s13, s, m', g, c, rfl, H, hm'⟩ := hW
          obtain ⟨hy1, hy2⟩ := range_split hxs
          have hpl : pre.length < 16 := by omega
          refine ⟨_, gNm (i := 2) Gg rfl (by ktf_call "Kd") (by decide), ?_⟩
          show wSs Γ X B _ [_, _, .val (.int (y : Nat)), _, _, _, _, _, _, _, _, _, _, _, _] _ _
          have hT := H.w.t
          have hP := H.w.p
          refine wSs_cons (sSet G (by ktf_call "Up") (by ktf_call "KdL") ?_)
          ktf_call "goE"
          intro dd hdd
          obtain ⟨mv, rfl, hmv⟩ : ∃ mv, dd = mvD mv ∧ mv.vert = true := by
            simp only [List.mem_cons, List.not_mem_nil, or_false] at hdd
            rcases hdd with rfl | rfl | rfl | rfl
            · exact ⟨.up, rfl, rfl⟩
            · exact ⟨.down, rfl, rfl⟩
            · exact ⟨.pageup, rfl, rfl⟩
            · exact ⟨.pagedown, rfl, rfl⟩
          clear hdd
          replace H : K23 cS ls h co (put S' a (.lst (zs (m' + 1)))) a (m' + 1) p d g s c := ⟨H.w.tw _, H.hf, H.at_, H.ws, H.cc⟩
          clear hT hP
          generalize put S' a _ = S6 at H ⊢
          refine wSs_cons (sSet G (by ktf_call "Up") (by ktf_call "KdL") ?_)
          refine wE_dget Gg ?_
          refine wE_disp [(_, _), (_, _), (_, _), (_, _)] (wPP_s ?_)
          ktf_call "goE"
          refine wPP_s ?_
          ktf_call "goE"
          refine wPP_s ?_
          ktf_call "goE"
          refine wPP_s ?_
          ktf_call "goE"
          refine wPP_nil ⟨by show 4 ≤ 15; decide, fun q0 hq0 _ => ?_⟩
          ktf_call "goE"
          refine ⟨q0, _, .inr ⟨(mvS mv).toArray⟩, _, rfl, put_same, by show D.str (mvS mv) = D.str (mvS mv).toArray.toList; simp, many_at hmv, ?_⟩
          replace H : K23 cS ls h co (put S6 q0 (.dct (mergeKD [] [(.inr "up", .int (-1)), (.inr "down", .int 1), (.inr "pageup", .int (0 - (h : Int))), (.inr "pagedown", .int (h : Nat))]))) a (m' + 1) p d g s c := ⟨H.w.fresh hq0, H.hf, H.at_, H.ws, H.cc⟩
          generalize put S6 q0 _ = S7 at H ⊢
          have hT := H.w.t
          have hP := H.w.p
          have hgl := H.at_.kl
          refine wSs_cons (sSet G (by ktf_call "Up") (by ktf_call "KdL") ?_)
          ktf_call "goE"
          rw [List.length_map]
          obtain ⟨g2, hg2⟩ : ∃ g2 : Nat, (g2 : Int) = min (max 0 ((g : Int) + mv.many h)) ((ls.length : Int) - 1) := ⟨(min (max 0 ((g : Int) + mv.many h)) ((ls.length : Int) - 1)).toNat, by omega⟩
          rw [← hg2]
          have hg2l : g2 < ls.length := by omega
          obtain ⟨hxc, hxd⟩ := hx20 g2 hg2l
          have H2 := H.step hmv g2 hg2
          refine wSs_cons (wS_expr ?_)
          ktf_call "goE"
          refine mvCall mv rfl hP H.hf.ok ?_
          clear hT hP
          generalize hS8 : put S7 p _ = S8 at H2 ⊢
          have hP := H2.w.p
          refine wSs_cons (sSet G (by ktf_call "Up") (by ktf_call "KdL") ?_)
          ktf_call "goE"
          obtain ⟨c2, hc2⟩ : ∃ c2, c2 = if g2 = g then (if mv.many h < 0 then 0 else ls.getD g 0) else min co (ls.getD g2 0) := ⟨_, rfl⟩
          rw [← hc2] at H2
          refine wSs_cut (fun ρ' S5 => S5 = S8 ∧ ρ' = [.val (.scr ns), .val (.ref a), .val (.int (y : Nat)), .val (rowsD ls), .val (.str (txR ls)), .val (.int (h : Nat)), .val (.ref p), .val (.int (g : Nat)), .val (.int (co : Nat)), .val (.tup [.int (nu : Nat), .int (co : Nat)]), .val (mvD mv), .val (.int (mv.many h)), .val (.int (g2 : Nat)), .val (.tup [.int (g2 : Nat), .int (c2 : Nat)]), .no]) ?u1 ?u2
          case u1 =>
            refine wS_if (wT_cmp ?_)
            ktf_call "goE"
            refine ⟨fun hz => ?_, fun hz => ?_⟩
            · have hz : g2 = g := by have := of_decide_eq_true hz; omega
              rw [if_pos hz] at hc2
              refine wSs_cons (sSet G (by ktf_call "Up") (by ktf_call "KdL") (wE_p (d := .tup [.int (g2 : Nat), .int (c2 : Nat)]) (fun Q' q' => ?b1) ?b2))
              case b1 =>
                rw [hc2] at q'
                refine wE_tup (wA_cons ?_)
                ktf_call "goE"
                refine wT_cmp ?_
                ktf_call "goE"
                refine ⟨fun hy => ?_, fun hy => ?_⟩
                · rw [if_pos (of_decide_eq_true hy)] at q'
                  ktf_call "goE"
                  exact q'
                · rw [if_neg (of_decide_eq_false hy)] at q'
                  ktf_call "goE"
                  rw [hxc]
                  rw [← hz] at q'
                  exact q'
              case b2 =>
                ktf_call "go"
                exact ⟨rfl, rfl⟩
            · have hz : g2 ≠ g := by have := of_decide_eq_false hz; omega
              rw [if_neg hz] at hc2
              ktf_call "go"
              refine ⟨rfl, ?_⟩
              rw [hc2, hxc]
          case u2 =>
            rintro ρ' S5 ⟨rfl, rfl⟩
            have hat := H2.hf.ok
            have hr := H2.at_.row
            have hcl := H2.at_.col
            ktf_call "go"
            rw [hr, hcl, cutD_from1]
            refine opI (neRef (n1 := 1) Gg rfl (pu2 _ _) (by decide)) ⟨fun z => Bool.noConfusion z, fun _ => ?_⟩
            ktf_call "go"
            exact ⟨⟨_, _, _, _, _, _, _, g2, c2, rfl, H2, by rw [List.length_append, List.length_singleton]; omega⟩⟩
        · clear H s1
          obtain ⟨s2, s10, s11, s12, s13, s, m', g, c, rfl, H, hm'⟩ := hW
          rw [List.length_range] at hm'
          have hm' : m' ≤ 40 := by omega
          refine wSs_cons (wS_while Gg (fun k ρ S => ∃ (s : Sh) (g c : Nat), ρ = [.val (.scr ns), .val (.ref a), s2, .val (rowsD ls), .val (.str (txR ls)), .val (.int (h : Nat)), .val (.ref p), .val (.int (g : Nat)), .val (.int (co : Nat)), .val (.tup [.int (nu : Nat), .int (co : Nat)]), s10, s11, s12, s13, .no] ∧ K23 cS ls h co S a m' p d g s c ∧ g - nu = k) _ ⟨s, g, c, rfl, H, rfl⟩ (fun k ρ' S' hW => ?_))
          clear H s g c
          obtain ⟨s, g, c, rfl, H, hk⟩ := hW
          have hP := H.w.p
          have hgl := H.at_.kl
          refine wT_cmp ?_
          ktf_call "go"
          refine ⟨fun hz => ?_, fun hz => ?_⟩
          · have hz := of_decide_eq_true hz
            have H2 := H.step (mv := .up) rfl (g - 1) (by show ((g - 1 : Nat) : Int) = min (max 0 ((g : Int) + -1)) ((ls.length : Int) - 1); omega)
            refine wSs_cons (wS_expr ?_)
            ktf_call "goE"
            refine mvCall .up rfl hP H.hf.ok ?_
            ktf_call "go"
            exact ⟨⟨_, by omega, _, g - 1, _, by rw [show ((g : Nat) : Int) - 1 = ((g - 1 : Nat) : Int) by omega], H2, rfl⟩⟩
          · have hz := of_decide_eq_false hz
            refine wSs_cons (wS_while Gg (fun k ρ S => ∃ (s : Sh) (g c : Nat), ρ = [.val (.scr ns), .val (.ref a), s2, .val (rowsD ls), .val (.str (txR ls)), .val (.int (h : Nat)), .val (.ref p), .val (.int (g : Nat)), .val (.int (co : Nat)), .val (.tup [.int (nu : Nat), .int (co : Nat)]), s10, s11, s12, s13, .no] ∧ K23 cS ls h co S a m' p d g s c ∧ nu - g = k ∧ g ≤ nu) _ ⟨s, g, c, rfl, H, rfl, by omega⟩ (fun k ρ' S' hW => ?_))
            clear H s hP hgl hz hk
            obtain ⟨s, g, c, rfl, H, hk, hle⟩ := hW
            have hP := H.w.p
            have hgl := H.at_.kl
            refine wT_cmp ?_
            ktf_call "go"
            refine ⟨fun hz => ?_, fun hz => ?_⟩
            · have hz := of_decide_eq_true hz
              have H2 := H.step (mv := .down) rfl (g + 1) (by show ((g + 1 : Nat) : Int) = min (max 0 ((g : Int) + 1)) ((ls.length : Int) - 1); omega)
              refine wSs_cons (wS_expr ?_)
              ktf_call "goE"
              refine mvCall .down rfl hP H.hf.ok ?_
              ktf_call "go"
              exact ⟨⟨_, by omega, _, g + 1, _, rfl, H2, rfl, by omega⟩⟩
            · have hz := of_decide_eq_false hz
              obtain rfl : g = nu := by omega
              have ok := H.hf.ok
              have hr := H.at_.row
              have hcl := H.at_.col
              refine wSs_cons (wS_if (wT_p (z := false) (pT_W (pW_or (y := false) (fun _ hq => ?f1) fun _ => pW_or1 (y := false) (fun _ hq => ?f2))) ⟨fun z => (by cases z), fun _ => ?f3⟩))
              case f1 =>
                ktf_call "go"
                rw [hr, decide_eq_true rfl]
                exact hq
              case f2 =>
                ktf_call "go"
                rw [hcl, hxa]
                refine opI (niT Gg rfl rfl) ?_
                have hcc := H.cc
                rw [ni3 (by omega)]
                exact hq
              case f3 =>
                refine wSs_nil ?_
                refine wSs_cons (wS_expr ?_)
                ktf_call "goE"
                refine mvCall .end_ rfl hP ok ?_
                obtain ⟨A3, w3⟩ := H.at_.endd
                have W3 := H.w.mv .end_ false
                have f3 := mv_fin H.hf .end_ false
                generalize s.move .end_ false = s3 at A3 w3 W3 f3 ⊢
                generalize put S' p _ = S8 at W3 ⊢
                clear H hP ok hr hcl
                have hP := W3.p
                refine wSs_cons (wS_expr ?_)
                ktf_call "goE"
                refine mvCall .up rfl hP f3.ok ?_
                obtain ⟨A4, _⟩ := A3.step (m := .up) rfl (g - 1) (by show ((g - 1 : Nat) : Int) = min (max 0 ((g : Int) + -1)) ((ls.length : Int) - 1); omega)
                rw [w3] at A4
                have W4 := W3.mv .up false
                have f4 := mv_fin f3 .up false
                generalize s3.move .up false = s4 at A4 W4 f4 ⊢
                clear hP
                generalize put S8 p _ = S9 at W4 ⊢
                have hP := W4.p
                have ok := f4.ok
                have hr := A4.row
                have hcl := A4.col
                have hca := A4.car
                refine wSs_cons (wS_if (wT_cmp ?_))
                ktf_call "goE"
                refine ⟨fun hz => ?_, fun hz => ?_⟩
                · have hz := of_decide_eq_true hz
                  obtain rfl : g = 0 := by omega
                  rw [if_pos rfl, if_pos (show Mv.many h .up < 0 by show (-1 : Int) < 0; decide)] at hca hcl
                  refine wSs_cons (wS_ret (wE_cmp ?_))
                  ktf_call "goE"
                  rw [hr, hcl, hca]
                  refine opI (eqRef (n1 := 1) Gg rfl (pu3 _ _ _) (by decide)) ?_
                  exact q _
                · have hz := of_decide_eq_false hz
                  rw [if_neg (by omega)] at hcl
                  obtain ⟨hxe, hxf⟩ := hx20 (g - 1) (by omega)
                  have hg1 : g - 1 < ls.length := by omega
                  refine wSs_nil ?_
                  refine wSs_cons (wS_ret (wE_cmp ?_))
                  ktf_call "goE"
                  rw [hr, hcl, cutD_from1]
                  rw [show ((g : Nat) : Int) - 1 = ((g - 1 : Nat) : Int) by omega]
                  ktf_call "goE"
                  rw [hxa, hxe]
                  refine opI (eqRef (n1 := 1) Gg rfl (pu2 _ _) (by decide)) ?_
                  exact q _
end Hd

end

section
namespace Hd
open PySem PySem.Spec PyProof.Rows L2 CR
section
variable {P : Program} {w : World} {K : PySem.W.Frag} {h base : Heap} {mg : Str → Option Value}
theorem fc_glo__wall (c : He.SaysD fa fn K) : (He.Fa.glo "_wall").ok K = true := c.fact 0 rfl
theorem fc_glo_is_text (c : He.SaysD fa fn K) : (He.Fa.glo "is_text").ok K = true := c.fact 1 rfl
theorem fc_glo_look_text (c : He.SaysD fa fn K) : (He.Fa.glo "look_text").ok K = true := c.fact 2 rfl
theorem fc_glo_look_width (c : He.SaysD fa fn K) : (He.Fa.glo "look_width").ok K = true := c.fact 3 rfl
theorem fc_glo_wide (c : He.SaysD fa fn K) : (He.Fa.glo "wide").ok K = true := c.fact 4 rfl
theorem fc_glo_fitting (c : He.SaysD fa fn K) : (He.Fa.glo "fitting").ok K = true := c.fact 5 rfl
theorem fc_glo_row_end (c : He.SaysD fa fn K) : (He.Fa.glo "row_end").ok K = true := c.fact 6 rfl
theorem fc_glo_paragraph_rows (c : He.SaysD fa fn K) : (He.Fa.glo "paragraph_rows").ok K = true := c.fact 7 rfl
theorem fc_glo_paragraphs (c : He.SaysD fa fn K) : (He.Fa.glo "paragraphs").ok K = true := c.fact 8 rfl
theorem fc_glo_rows_of (c : He.SaysD fa fn K) : (He.Fa.glo "rows_of").ok K = true := c.fact 9 rfl
theorem fc_glo_row_at (c : He.SaysD fa fn K) : (He.Fa.glo "row_at").ok K = true := c.fact 10 rfl
theorem fc_glo_column_of (c : He.SaysD fa fn K) : (He.Fa.glo "column_of").ok K = true := c.fact 11 rfl
theorem fc_glo_offset_at (c : He.SaysD fa fn K) : (He.Fa.glo "offset_at").ok K = true := c.fact 12 rfl
theorem fc_glo_look_offset (c : He.SaysD fa fn K) : (He.Fa.glo "look_offset").ok K = true := c.fact 13 rfl
theorem fc_glo_is_soft_end (c : He.SaysD fa fn K) : (He.Fa.glo "is_soft_end").ok K = true := c.fact 14 rfl
theorem fc_glo_carried (c : He.SaysD fa fn K) : (He.Fa.glo "carried").ok K = true := c.fact 15 rfl
theorem fc_glo__law_cell (c : He.SaysD fa fn K) : (He.Fa.glo "_law_cell").ok K = true := c.fact 16 rfl
theorem fc_glo__law_mix (c : He.SaysD fa fn K) : (He.Fa.glo "_law_mix").ok K = true := c.fact 17 rfl
theorem fc_glo__law_draw (c : He.SaysD fa fn K) : (He.Fa.glo "_law_draw").ok K = true := c.fact 18 rfl
theorem fc_glo__law_pick (c : He.SaysD fa fn K) : (He.Fa.glo "_law_pick").ok K = true := c.fact 19 rfl
theorem fc_glo_law (c : He.SaysD fa fn K) : (He.Fa.glo "law").ok K = true := c.fact 20 rfl
theorem fc_glo_Row (c : He.SaysD fa fn K) : (He.Fa.glo "Row").ok K = true := c.fact 21 rfl
theorem fc_cls_Row (c : He.SaysD fa fn K) : (He.Fa.cls "Row").ok K = true := c.fact 22 rfl
theorem fc_mkr_Row (c : He.SaysD fa fn K) : (He.Fa.mkr "Row").ok K = true := c.fact 23 rfl
theorem fc_meth_Row_told (c : He.SaysD fa fn K) : (He.Fa.meth "Row" "told").ok K = true := c.fact 24 rfl
theorem fc_noat_Row_end (c : He.SaysD fa fn K) : (He.Fa.noat "Row" "end").ok K = true := c.fact 25 rfl
theorem fc_noat_Row_is_soft (c : He.SaysD fa fn K) : (He.Fa.noat "Row" "is_soft").ok K = true := c.fact 26 rfl
theorem fc_noat_Row_start (c : He.SaysD fa fn K) : (He.Fa.noat "Row" "start").ok K = true := c.fact 27 rfl
theorem fc_glo_Sheet (c : He.SaysD fa fn K) : (He.Fa.glo "Sheet").ok K = true := c.fact 28 rfl
theorem fc_cls_Sheet (c : He.SaysD fa fn K) : (He.Fa.cls "Sheet").ok K = true := c.fact 29 rfl
theorem fc_mkr_Sheet (c : He.SaysD fa fn K) : (He.Fa.mkr "Sheet").ok K = true := c.fact 30 rfl
theorem fc_meth_Sheet_text (c : He.SaysD fa fn K) : (He.Fa.meth "Sheet" "text").ok K = true := c.fact 31 rfl
theorem fc_meth_Sheet_rows (c : He.SaysD fa fn K) : (He.Fa.meth "Sheet" "rows").ok K = true := c.fact 32 rfl
theorem fc_meth_Sheet_at (c : He.SaysD fa fn K) : (He.Fa.meth "Sheet" "at").ok K = true := c.fact 33 rfl
theorem fc_meth_Sheet_chosen (c : He.SaysD fa fn K) : (He.Fa.meth "Sheet" "chosen").ok K = true := c.fact 34 rfl
theorem fc_meth_Sheet_chosen_text (c : He.SaysD fa fn K) : (He.Fa.meth "Sheet" "chosen_text").ok K = true := c.fact 35 rfl
theorem fc_meth_Sheet_put (c : He.SaysD fa fn K) : (He.Fa.meth "Sheet" "put").ok K = true := c.fact 36 rfl
theorem fc_meth_Sheet_scroll (c : He.SaysD fa fn K) : (He.Fa.meth "Sheet" "scroll").ok K = true := c.fact 37 rfl
theorem fc_meth_Sheet_go (c : He.SaysD fa fn K) : (He.Fa.meth "Sheet" "go").ok K = true := c.fact 38 rfl
theorem fc_meth_Sheet_choose (c : He.SaysD fa fn K) : (He.Fa.meth "Sheet" "choose").ok K = true := c.fact 39 rfl
theorem fc_meth_Sheet_point (c : He.SaysD fa fn K) : (He.Fa.meth "Sheet" "point").ok K = true := c.fact 40 rfl
theorem fc_meth_Sheet_is_letter (c : He.SaysD fa fn K) : (He.Fa.meth "Sheet" "is_letter").ok K = true := c.fact 41 rfl
theorem fc_meth_Sheet_word_right (c : He.SaysD fa fn K) : (He.Fa.meth "Sheet" "word_right").ok K = true := c.fact 42 rfl
theorem fc_meth_Sheet_word_left (c : He.SaysD fa fn K) : (He.Fa.meth "Sheet" "word_left").ok K = true := c.fact 43 rfl
theorem fc_meth_Sheet_flat_goal (c : He.SaysD fa fn K) : (He.Fa.meth "Sheet" "flat_goal").ok K = true := c.fact 44 rfl
theorem fc_meth_Sheet_move (c : He.SaysD fa fn K) : (He.Fa.meth "Sheet" "move").ok K = true := c.fact 45 rfl
theorem fc_meth_Sheet_move_rows (c : He.SaysD fa fn K) : (He.Fa.meth "Sheet" "move_rows").ok K = true := c.fact 46 rfl
theorem fc_meth_Sheet_change (c : He.SaysD fa fn K) : (He.Fa.meth "Sheet" "change").ok K = true := c.fact 47 rfl
theorem fc_meth_Sheet_set_between (c : He.SaysD fa fn K) : (He.Fa.meth "Sheet" "set_between").ok K = true := c.fact 48 rfl
theorem fc_meth_Sheet_write (c : He.SaysD fa fn K) : (He.Fa.meth "Sheet" "write").ok K = true := c.fact 49 rfl
theorem fc_meth_Sheet_erase (c : He.SaysD fa fn K) : (He.Fa.meth "Sheet" "erase").ok K = true := c.fact 50 rfl
theorem fc_meth_Sheet_resize (c : He.SaysD fa fn K) : (He.Fa.meth "Sheet" "resize").ok K = true := c.fact 51 rfl
theorem fc_meth_Sheet_mark (c : He.SaysD fa fn K) : (He.Fa.meth "Sheet" "mark").ok K = true := c.fact 52 rfl
theorem fc_meth_Sheet_marks (c : He.SaysD fa fn K) : (He.Fa.meth "Sheet" "marks").ok K = true := c.fact 53 rfl
theorem fc_meth_Sheet_view (c : He.SaysD fa fn K) : (He.Fa.meth "Sheet" "view").ok K = true := c.fact 54 rfl
theorem fc_noat_Sheet_anchor (c : He.SaysD fa fn K) : (He.Fa.noat "Sheet" "anchor").ok K = true := c.fact 55 rfl
theorem fc_noat_Sheet_caret (c : He.SaysD fa fn K) : (He.Fa.noat "Sheet" "caret").ok K = true := c.fact 56 rfl
theorem fc_noat_Sheet_first (c : He.SaysD fa fn K) : (He.Fa.noat "Sheet" "first").ok K = true := c.fact 57 rfl
theorem fc_noat_Sheet_height (c : He.SaysD fa fn K) : (He.Fa.noat "Sheet" "height").ok K = true := c.fact 58 rfl
theorem fc_noat_Sheet_is_back (c : He.SaysD fa fn K) : (He.Fa.noat "Sheet" "is_back").ok K = true := c.fact 59 rfl
theorem fc_noat_Sheet_marked (c : He.SaysD fa fn K) : (He.Fa.noat "Sheet" "marked").ok K = true := c.fact 60 rfl
theorem fc_noat_Sheet_now (c : He.SaysD fa fn K) : (He.Fa.noat "Sheet" "now").ok K = true := c.fact 61 rfl
theorem fc_noat_Sheet_width (c : He.SaysD fa fn K) : (He.Fa.noat "Sheet" "width").ok K = true := c.fact 62 rfl
theorem fc_noat_Sheet_wish (c : He.SaysD fa fn K) : (He.Fa.noat "Sheet" "wish").ok K = true := c.fact 63 rfl
theorem fc_glo_CaretError (c : He.SaysD fa fn K) : (He.Fa.glo "CaretError").ok K = true := c.fact 64 rfl
theorem fc_exc_CaretError (c : He.SaysD fa fn K) : (He.Fa.exc "CaretError").ok K = true := c.fact 65 rfl
theorem fc_glo_BadText (c : He.SaysD fa fn K) : (He.Fa.glo "BadText").ok K = true := c.fact 66 rfl
theorem fc_exc_BadText (c : He.SaysD fa fn K) : (He.Fa.exc "BadText").ok K = true := c.fact 67 rfl
theorem fc_glo_BadSize (c : He.SaysD fa fn K) : (He.Fa.glo "BadSize").ok K = true := c.fact 68 rfl
theorem fc_exc_BadSize (c : He.SaysD fa fn K) : (He.Fa.exc "BadSize").ok K = true := c.fact 69 rfl
theorem fc_glo_BadPlace (c : He.SaysD fa fn K) : (He.Fa.glo "BadPlace").ok K = true := c.fact 70 rfl
theorem fc_exc_BadPlace (c : He.SaysD fa fn K) : (He.Fa.exc "BadPlace").ok K = true := c.fact 71 rfl
theorem fc_glo_BadMove (c : He.SaysD fa fn K) : (He.Fa.glo "BadMove").ok K = true := c.fact 72 rfl
theorem fc_exc_BadMove (c : He.SaysD fa fn K) : (He.Fa.exc "BadMove").ok K = true := c.fact 73 rfl
theorem fc_exm_CaretError_CaretError (c : He.SaysD fa fn K) : (He.Fa.exm "CaretError" "CaretError" true).ok K = true := c.fact 74 rfl
theorem fc_exm_BadText_CaretError (c : He.SaysD fa fn K) : (He.Fa.exm "BadText" "CaretError" true).ok K = true := c.fact 75 rfl
theorem fc_exm_BadSize_CaretError (c : He.SaysD fa fn K) : (He.Fa.exm "BadSize" "CaretError" true).ok K = true := c.fact 76 rfl
theorem fc_exm_BadPlace_CaretError (c : He.SaysD fa fn K) : (He.Fa.exm "BadPlace" "CaretError" true).ok K = true := c.fact 77 rfl
theorem fc_exm_BadMove_CaretError (c : He.SaysD fa fn K) : (He.Fa.exm "BadMove" "CaretError" true).ok K = true := c.fact 78 rfl
theorem fc_int_MOST_TEXT (c : He.SaysD fa fn K) : (He.Fa.int "MOST_TEXT" 2000).ok K = true := c.fact 79 rfl
theorem fc_int_MOST_WIDTH (c : He.SaysD fa fn K) : (He.Fa.int "MOST_WIDTH" 200).ok K = true := c.fact 80 rfl
theorem fc_str_GREAT (c : He.SaysD fa fn K) : (He.Fa.str "GREAT" "ABCDEFGHIJKLMNOPQRSTUVWXYZ").ok K = true := c.fact 81 rfl
theorem fc_str_LETTERS (c : He.SaysD fa fn K) : (He.Fa.str "LETTERS" "abcdefghijklmnopqrstuvwxyzABCDEFGHIJKLMNOPQRSTUVWXYZ0123456789").ok K = true := c.fact 82 rfl
theorem fc_glo_MOVES (c : He.SaysD fa fn K) : (He.Fa.glo "MOVES").ok K = true := c.fact 83 rfl
theorem fc_glo_VERTICAL (c : He.SaysD fa fn K) : (He.Fa.glo "VERTICAL").ok K = true := c.fact 84 rfl
theorem fc_int_MOST_HEIGHT (c : He.SaysD fa fn K) : (He.Fa.int "MOST_HEIGHT" 100).ok K = true := c.fact 85 rfl
theorem fc_free_ValueError (c : He.SaysD fa fn K) : (He.Fa.free "ValueError").ok K = true := c.fact 86 rfl
theorem fc_free_abs (c : He.SaysD fa fn K) : (He.Fa.free "abs").ok K = true := c.fact 87 rfl
theorem fc_free_all (c : He.SaysD fa fn K) : (He.Fa.free "all").ok K = true := c.fact 88 rfl
theorem fc_free_len (c : He.SaysD fa fn K) : (He.Fa.free "len").ok K = true := c.fact 89 rfl
theorem fc_free_list (c : He.SaysD fa fn K) : (He.Fa.free "list").ok K = true := c.fact 90 rfl
theorem fc_free_max (c : He.SaysD fa fn K) : (He.Fa.free "max").ok K = true := c.fact 91 rfl
theorem fc_free_min (c : He.SaysD fa fn K) : (He.Fa.free "min").ok K = true := c.fact 92 rfl
theorem fc_free_ord (c : He.SaysD fa fn K) : (He.Fa.free "ord").ok K = true := c.fact 93 rfl
theorem fc_free_range (c : He.SaysD fa fn K) : (He.Fa.free "range").ok K = true := c.fact 94 rfl
theorem fc_free_sorted (c : He.SaysD fa fn K) : (He.Fa.free "sorted").ok K = true := c.fact 95 rfl
theorem fc_free_sum (c : He.SaysD fa fn K) : (He.Fa.free "sum").ok K = true := c.fact 96 rfl
theorem df__wall (X : K.In h) (G : h.Ns mainGlobals mg) (c : He.SaysD fa fn K) : Df ⟨P, w, K, mg, base⟩ "_wall" s__wall ["k"] := by
  obtain ⟨fd, F⟩ := c.def_ 0 (d := d__wall) rfl
  exact ⟨_, fd, F, He.glo_ok X G (c.fact 0 (f := .glo "_wall") rfl), F.bindsN fun _ _ _ _ _ _ us hl => match us, hl with | [_], _ => rfl⟩
theorem df_is_text (X : K.In h) (G : h.Ns mainGlobals mg) (c : He.SaysD fa fn K) : Df ⟨P, w, K, mg, base⟩ "is_text" s_is_text ["text"] := by
  obtain ⟨fd, F⟩ := c.def_ 1 (d := d_is_text) rfl
  exact ⟨_, fd, F, He.glo_ok X G (c.fact 1 (f := .glo "is_text") rfl), F.bindsN fun _ _ _ _ _ _ us hl => match us, hl with | [_], _ => rfl⟩
theorem df_look_text (X : K.In h) (G : h.Ns mainGlobals mg) (c : He.SaysD fa fn K) : Df ⟨P, w, K, mg, base⟩ "look_text" s_look_text ["text"] := by
  obtain ⟨fd, F⟩ := c.def_ 2 (d := d_look_text) rfl
  exact ⟨_, fd, F, He.glo_ok X G (c.fact 2 (f := .glo "look_text") rfl), F.bindsN fun _ _ _ _ _ _ us hl => match us, hl with | [_], _ => rfl⟩
theorem df_look_width (X : K.In h) (G : h.Ns mainGlobals mg) (c : He.SaysD fa fn K) : Df ⟨P, w, K, mg, base⟩ "look_width" s_look_width ["width"] := by
  obtain ⟨fd, F⟩ := c.def_ 3 (d := d_look_width) rfl
  exact ⟨_, fd, F, He.glo_ok X G (c.fact 3 (f := .glo "look_width") rfl), F.bindsN fun _ _ _ _ _ _ us hl => match us, hl with | [_], _ => rfl⟩
theorem df_wide (X : K.In h) (G : h.Ns mainGlobals mg) (c : He.SaysD fa fn K) : Df ⟨P, w, K, mg, base⟩ "wide" s_wide ["text"] := by
  obtain ⟨fd, F⟩ := c.def_ 4 (d := d_wide) rfl
  exact ⟨_, fd, F, He.glo_ok X G (c.fact 4 (f := .glo "wide") rfl), F.bindsN fun _ _ _ _ _ _ us hl => match us, hl with | [_], _ => rfl⟩
theorem dc_Row (X : K.In h) (G : h.Ns mainGlobals mg) (c : He.SaysD fa fn K) : Dc ⟨P, w, K, mg, base⟩ "Row" (He.ga K "Row") "Row.__init__" s_Row_init ["self", "start", "end", "is_soft"] := by
  obtain ⟨fd, F⟩ := c.def_ 5 (d := d_Row_init) rfl
  exact ⟨_, fd, F, He.glo_ok X G (c.fact 21 (f := .glo "Row") rfl), He.mkr_ok (c.fact 23 (f := .mkr "Row") rfl), F.bindsN fun _ _ _ _ _ _ us hl => match us, hl with | [_, _, _, _], _ => rfl⟩
theorem dm_Row_told (X : K.In h) (G : h.Ns mainGlobals mg) (c : He.SaysD fa fn K) : Dm ⟨P, w, K, mg, base⟩ (He.ga K "Row") "told" "Row.told" s_Row_told ["self"] := by
  obtain ⟨fd, F⟩ := c.def_ 6 (d := d_Row_told) rfl
  exact ⟨_, fd, F, He.cls_ok (c.fact 22 (f := .cls "Row") rfl), He.meth_ok (c.fact 24 (f := .meth "Row" "told") rfl), F.bindsN fun _ _ _ _ _ _ us hl => match us, hl with | [_], _ => rfl⟩
theorem df_fitting (X : K.In h) (G : h.Ns mainGlobals mg) (c : He.SaysD fa fn K) : Df ⟨P, w, K, mg, base⟩ "fitting" s_fitting ["text", "start", "last", "width"] := by
  obtain ⟨fd, F⟩ := c.def_ 7 (d := d_fitting) rfl
  exact ⟨_, fd, F, He.glo_ok X G (c.fact 5 (f := .glo "fitting") rfl), F.bindsN fun _ _ _ _ _ _ us hl => match us, hl with | [_, _, _, _], _ => rfl⟩
theorem df_row_end (X : K.In h) (G : h.Ns mainGlobals mg) (c : He.SaysD fa fn K) : Df ⟨P, w, K, mg, base⟩ "row_end" s_row_end ["text", "start", "last", "width"] := by
  obtain ⟨fd, F⟩ := c.def_ 8 (d := d_row_end) rfl
  exact ⟨_, fd, F, He.glo_ok X G (c.fact 6 (f := .glo "row_end") rfl), F.bindsN fun _ _ _ _ _ _ us hl => match us, hl with | [_, _, _, _], _ => rfl⟩
theorem df_paragraph_rows (X : K.In h) (G : h.Ns mainGlobals mg) (c : He.SaysD fa fn K) : Df ⟨P, w, K, mg, base⟩ "paragraph_rows" s_paragraph_rows ["text", "start", "last", "width"] := by
  obtain ⟨fd, F⟩ := c.def_ 9 (d := d_paragraph_rows) rfl
  exact ⟨_, fd, F, He.glo_ok X G (c.fact 7 (f := .glo "paragraph_rows") rfl), F.bindsN fun _ _ _ _ _ _ us hl => match us, hl with | [_, _, _, _], _ => rfl⟩
theorem df_paragraphs (X : K.In h) (G : h.Ns mainGlobals mg) (c : He.SaysD fa fn K) : Df ⟨P, w, K, mg, base⟩ "paragraphs" s_paragraphs ["text"] := by
  obtain ⟨fd, F⟩ := c.def_ 10 (d := d_paragraphs) rfl
  exact ⟨_, fd, F, He.glo_ok X G (c.fact 8 (f := .glo "paragraphs") rfl), F.bindsN fun _ _ _ _ _ _ us hl => match us, hl with | [_], _ => rfl⟩
theorem df_rows_of (X : K.In h) (G : h.Ns mainGlobals mg) (c : He.SaysD fa fn K) : Df ⟨P, w, K, mg, base⟩ "rows_of" s_rows_of ["text", "width"] := by
  obtain ⟨fd, F⟩ := c.def_ 11 (d := d_rows_of) rfl
  exact ⟨_, fd, F, He.glo_ok X G (c.fact 9 (f := .glo "rows_of") rfl), F.bindsN fun _ _ _ _ _ _ us hl => match us, hl with | [_, _], _ => rfl⟩
theorem df_row_at (X : K.In h) (G : h.Ns mainGlobals mg) (c : He.SaysD fa fn K) : Df ⟨P, w, K, mg, base⟩ "row_at" s_row_at ["rows", "offset", "is_back"] := by
  obtain ⟨fd, F⟩ := c.def_ 12 (d := d_row_at) rfl
  exact ⟨_, fd, F, He.glo_ok X G (c.fact 10 (f := .glo "row_at") rfl), F.bindsN fun _ _ _ _ _ _ us hl => match us, hl with | [_, _, _], _ => rfl⟩
theorem df_column_of (X : K.In h) (G : h.Ns mainGlobals mg) (c : He.SaysD fa fn K) : Df ⟨P, w, K, mg, base⟩ "column_of" s_column_of ["text", "row", "offset"] := by
  obtain ⟨fd, F⟩ := c.def_ 13 (d := d_column_of) rfl
  exact ⟨_, fd, F, He.glo_ok X G (c.fact 11 (f := .glo "column_of") rfl), F.bindsN fun _ _ _ _ _ _ us hl => match us, hl with | [_, _, _], _ => rfl⟩
theorem df_offset_at (X : K.In h) (G : h.Ns mainGlobals mg) (c : He.SaysD fa fn K) : Df ⟨P, w, K, mg, base⟩ "offset_at" s_offset_at ["text", "row", "column"] := by
  obtain ⟨fd, F⟩ := c.def_ 14 (d := d_offset_at) rfl
  exact ⟨_, fd, F, He.glo_ok X G (c.fact 12 (f := .glo "offset_at") rfl), F.bindsN fun _ _ _ _ _ _ us hl => match us, hl with | [_, _, _], _ => rfl⟩
theorem df_look_offset (X : K.In h) (G : h.Ns mainGlobals mg) (c : He.SaysD fa fn K) : Df ⟨P, w, K, mg, base⟩ "look_offset" s_look_offset ["text", "offset"] := by
  obtain ⟨fd, F⟩ := c.def_ 15 (d := d_look_offset) rfl
  exact ⟨_, fd, F, He.glo_ok X G (c.fact 13 (f := .glo "look_offset") rfl), F.bindsN fun _ _ _ _ _ _ us hl => match us, hl with | [_, _], _ => rfl⟩
theorem df_is_soft_end (X : K.In h) (G : h.Ns mainGlobals mg) (c : He.SaysD fa fn K) : Df ⟨P, w, K, mg, base⟩ "is_soft_end" s_is_soft_end ["rows", "number", "offset"] := by
  obtain ⟨fd, F⟩ := c.def_ 16 (d := d_is_soft_end) rfl
  exact ⟨_, fd, F, He.glo_ok X G (c.fact 14 (f := .glo "is_soft_end") rfl), F.bindsN fun _ _ _ _ _ _ us hl => match us, hl with | [_, _, _], _ => rfl⟩
theorem dc_Sheet (X : K.In h) (G : h.Ns mainGlobals mg) (c : He.SaysD fa fn K) : Dc ⟨P, w, K, mg, base⟩ "Sheet" (He.ga K "Sheet") "Sheet.__init__" s_Sheet_init ["self", "text", "width", "height"] := by
  obtain ⟨fd, F⟩ := c.def_ 17 (d := d_Sheet_init) rfl
  exact ⟨_, fd, F, He.glo_ok X G (c.fact 28 (f := .glo "Sheet") rfl), He.mkr_ok (c.fact 30 (f := .mkr "Sheet") rfl), F.bindsN fun _ _ _ _ _ _ us hl => match us, hl with | [_, _, _, _], _ => rfl⟩
theorem dm_Sheet_text (X : K.In h) (G : h.Ns mainGlobals mg) (c : He.SaysD fa fn K) : Dm ⟨P, w, K, mg, base⟩ (He.ga K "Sheet") "text" "Sheet.text" s_Sheet_text ["self"] := by
  obtain ⟨fd, F⟩ := c.def_ 18 (d := d_Sheet_text) rfl
  exact ⟨_, fd, F, He.cls_ok (c.fact 29 (f := .cls "Sheet") rfl), He.meth_ok (c.fact 31 (f := .meth "Sheet" "text") rfl), F.bindsN fun _ _ _ _ _ _ us hl => match us, hl with | [_], _ => rfl⟩
theorem dm_Sheet_rows (X : K.In h) (G : h.Ns mainGlobals mg) (c : He.SaysD fa fn K) : Dm ⟨P, w, K, mg, base⟩ (He.ga K "Sheet") "rows" "Sheet.rows" s_Sheet_rows ["self"] := by
  obtain ⟨fd, F⟩ := c.def_ 19 (d := d_Sheet_rows) rfl
  exact ⟨_, fd, F, He.cls_ok (c.fact 29 (f := .cls "Sheet") rfl), He.meth_ok (c.fact 32 (f := .meth "Sheet" "rows") rfl), F.bindsN fun _ _ _ _ _ _ us hl => match us, hl with | [_], _ => rfl⟩
theorem dm_Sheet_at (X : K.In h) (G : h.Ns mainGlobals mg) (c : He.SaysD fa fn K) : Dm ⟨P, w, K, mg, base⟩ (He.ga K "Sheet") "at" "Sheet.at" s_Sheet_at ["self"] := by
  obtain ⟨fd, F⟩ := c.def_ 20 (d := d_Sheet_at) rfl
  exact ⟨_, fd, F, He.cls_ok (c.fact 29 (f := .cls "Sheet") rfl), He.meth_ok (c.fact 33 (f := .meth "Sheet" "at") rfl), F.bindsN fun _ _ _ _ _ _ us hl => match us, hl with | [_], _ => rfl⟩
theorem dm_Sheet_chosen (X : K.In h) (G : h.Ns mainGlobals mg) (c : He.SaysD fa fn K) : Dm ⟨P, w, K, mg, base⟩ (He.ga K "Sheet") "chosen" "Sheet.chosen" s_Sheet_chosen ["self"] := by
  obtain ⟨fd, F⟩ := c.def_ 21 (d := d_Sheet_chosen) rfl
  exact ⟨_, fd, F, He.cls_ok (c.fact 29 (f := .cls "Sheet") rfl), He.meth_ok (c.fact 34 (f := .meth "Sheet" "chosen") rfl), F.bindsN fun _ _ _ _ _ _ us hl => match us, hl with | [_], _ => rfl⟩
theorem dm_Sheet_chosen_text (X : K.In h) (G : h.Ns mainGlobals mg) (c : He.SaysD fa fn K) : Dm ⟨P, w, K, mg, base⟩ (He.ga K "Sheet") "chosen_text" "Sheet.chosen_text" s_Sheet_chosen_text ["self"] := by
  obtain ⟨fd, F⟩ := c.def_ 22 (d := d_Sheet_chosen_text) rfl
  exact ⟨_, fd, F, He.cls_ok (c.fact 29 (f := .cls "Sheet") rfl), He.meth_ok (c.fact 35 (f := .meth "Sheet" "chosen_text") rfl), F.bindsN fun _ _ _ _ _ _ us hl => match us, hl with | [_], _ => rfl⟩
theorem dm_Sheet_put (X : K.In h) (G : h.Ns mainGlobals mg) (c : He.SaysD fa fn K) : Dm ⟨P, w, K, mg, base⟩ (He.ga K "Sheet") "put" "Sheet.put" s_Sheet_put ["self", "offset", "is_back", "is_choosing"] := by
  obtain ⟨fd, F⟩ := c.def_ 23 (d := d_Sheet_put) rfl
  exact ⟨_, fd, F, He.cls_ok (c.fact 29 (f := .cls "Sheet") rfl), He.meth_ok (c.fact 36 (f := .meth "Sheet" "put") rfl), F.bindsN fun _ _ _ _ _ _ us hl => match us, hl with | [_, _, _, _], _ => rfl⟩
theorem dm_Sheet_scroll (X : K.In h) (G : h.Ns mainGlobals mg) (c : He.SaysD fa fn K) : Dm ⟨P, w, K, mg, base⟩ (He.ga K "Sheet") "scroll" "Sheet.scroll" s_Sheet_scroll ["self"] := by
  obtain ⟨fd, F⟩ := c.def_ 24 (d := d_Sheet_scroll) rfl
  exact ⟨_, fd, F, He.cls_ok (c.fact 29 (f := .cls "Sheet") rfl), He.meth_ok (c.fact 37 (f := .meth "Sheet" "scroll") rfl), F.bindsN fun _ _ _ _ _ _ us hl => match us, hl with | [_], _ => rfl⟩
theorem dm_Sheet_go (X : K.In h) (G : h.Ns mainGlobals mg) (c : He.SaysD fa fn K) : Dm ⟨P, w, K, mg, base⟩ (He.ga K "Sheet") "go" "Sheet.go" s_Sheet_go ["self", "offset"] := by
  obtain ⟨fd, F⟩ := c.def_ 25 (d := d_Sheet_go) rfl
  exact ⟨_, fd, F, He.cls_ok (c.fact 29 (f := .cls "Sheet") rfl), He.meth_ok (c.fact 38 (f := .meth "Sheet" "go") rfl), F.bindsN fun _ _ _ _ _ _ us hl => match us, hl with | [_, _], _ => rfl⟩
theorem dm_Sheet_choose (X : K.In h) (G : h.Ns mainGlobals mg) (c : He.SaysD fa fn K) : Dm ⟨P, w, K, mg, base⟩ (He.ga K "Sheet") "choose" "Sheet.choose" s_Sheet_choose ["self", "first", "last"] := by
  obtain ⟨fd, F⟩ := c.def_ 26 (d := d_Sheet_choose) rfl
  exact ⟨_, fd, F, He.cls_ok (c.fact 29 (f := .cls "Sheet") rfl), He.meth_ok (c.fact 39 (f := .meth "Sheet" "choose") rfl), F.bindsN fun _ _ _ _ _ _ us hl => match us, hl with | [_, _, _], _ => rfl⟩
theorem dm_Sheet_point (X : K.In h) (G : h.Ns mainGlobals mg) (c : He.SaysD fa fn K) : Dm ⟨P, w, K, mg, base⟩ (He.ga K "Sheet") "point" "Sheet.point" s_Sheet_point ["self", "row", "column", "is_choosing"] := by
  obtain ⟨fd, F⟩ := c.def_ 27 (d := d_Sheet_point) rfl
  exact ⟨_, fd, F, He.cls_ok (c.fact 29 (f := .cls "Sheet") rfl), He.meth_ok (c.fact 40 (f := .meth "Sheet" "point") rfl), F.bindsN fun _ _ _ _ _ _ us hl => match us, hl with | [_, _, _, _], _ => rfl⟩
theorem dm_Sheet_is_letter (X : K.In h) (G : h.Ns mainGlobals mg) (c : He.SaysD fa fn K) : Dm ⟨P, w, K, mg, base⟩ (He.ga K "Sheet") "is_letter" "Sheet.is_letter" s_Sheet_is_letter ["self", "offset"] := by
  obtain ⟨fd, F⟩ := c.def_ 28 (d := d_Sheet_is_letter) rfl
  exact ⟨_, fd, F, He.cls_ok (c.fact 29 (f := .cls "Sheet") rfl), He.meth_ok (c.fact 41 (f := .meth "Sheet" "is_letter") rfl), F.bindsN fun _ _ _ _ _ _ us hl => match us, hl with | [_, _], _ => rfl⟩
theorem dm_Sheet_word_right (X : K.In h) (G : h.Ns mainGlobals mg) (c : He.SaysD fa fn K) : Dm ⟨P, w, K, mg, base⟩ (He.ga K "Sheet") "word_right" "Sheet.word_right" s_Sheet_word_right ["self", "offset"] := by
  obtain ⟨fd, F⟩ := c.def_ 29 (d := d_Sheet_word_right) rfl
  exact ⟨_, fd, F, He.cls_ok (c.fact 29 (f := .cls "Sheet") rfl), He.meth_ok (c.fact 42 (f := .meth "Sheet" "word_right") rfl), F.bindsN fun _ _ _ _ _ _ us hl => match us, hl with | [_, _], _ => rfl⟩
theorem dm_Sheet_word_left (X : K.In h) (G : h.Ns mainGlobals mg) (c : He.SaysD fa fn K) : Dm ⟨P, w, K, mg, base⟩ (He.ga K "Sheet") "word_left" "Sheet.word_left" s_Sheet_word_left ["self", "offset"] := by
  obtain ⟨fd, F⟩ := c.def_ 30 (d := d_Sheet_word_left) rfl
  exact ⟨_, fd, F, He.cls_ok (c.fact 29 (f := .cls "Sheet") rfl), He.meth_ok (c.fact 43 (f := .meth "Sheet" "word_left") rfl), F.bindsN fun _ _ _ _ _ _ us hl => match us, hl with | [_, _], _ => rfl⟩
theorem dm_Sheet_flat_goal (X : K.In h) (G : h.Ns mainGlobals mg) (c : He.SaysD fa fn K) : Dm ⟨P, w, K, mg, base⟩ (He.ga K "Sheet") "flat_goal" "Sheet.flat_goal" s_Sheet_flat_goal ["self", "move"] := by
  obtain ⟨fd, F⟩ := c.def_ 31 (d := d_Sheet_flat_goal) rfl
  exact ⟨_, fd, F, He.cls_ok (c.fact 29 (f := .cls "Sheet") rfl), He.meth_ok (c.fact 44 (f := .meth "Sheet" "flat_goal") rfl), F.bindsN fun _ _ _ _ _ _ us hl => match us, hl with | [_, _], _ => rfl⟩
theorem dm_Sheet_move (X : K.In h) (G : h.Ns mainGlobals mg) (c : He.SaysD fa fn K) : Dm ⟨P, w, K, mg, base⟩ (He.ga K "Sheet") "move" "Sheet.move" s_Sheet_move ["self", "move", "is_choosing"] := by
  obtain ⟨fd, F⟩ := c.def_ 32 (d := d_Sheet_move) rfl
  exact ⟨_, fd, F, He.cls_ok (c.fact 29 (f := .cls "Sheet") rfl), He.meth_ok (c.fact 45 (f := .meth "Sheet" "move") rfl), F.bindsN fun _ _ _ _ _ _ us hl => match us, hl with | [_, _, _], _ => rfl⟩
theorem dm_Sheet_move_rows (X : K.In h) (G : h.Ns mainGlobals mg) (c : He.SaysD fa fn K) : Dm ⟨P, w, K, mg, base⟩ (He.ga K "Sheet") "move_rows" "Sheet.move_rows" s_Sheet_move_rows ["self", "many", "is_choosing"] := by
  obtain ⟨fd, F⟩ := c.def_ 33 (d := d_Sheet_move_rows) rfl
  exact ⟨_, fd, F, He.cls_ok (c.fact 29 (f := .cls "Sheet") rfl), He.meth_ok (c.fact 46 (f := .meth "Sheet" "move_rows") rfl), F.bindsN fun _ _ _ _ _ _ us hl => match us, hl with | [_, _, _], _ => rfl⟩
theorem dm_Sheet_change (X : K.In h) (G : h.Ns mainGlobals mg) (c : He.SaysD fa fn K) : Dm ⟨P, w, K, mg, base⟩ (He.ga K "Sheet") "change" "Sheet.change" s_Sheet_change ["self", "first", "last", "new"] := by
  obtain ⟨fd, F⟩ := c.def_ 34 (d := d_Sheet_change) rfl
  exact ⟨_, fd, F, He.cls_ok (c.fact 29 (f := .cls "Sheet") rfl), He.meth_ok (c.fact 47 (f := .meth "Sheet" "change") rfl), F.bindsN fun _ _ _ _ _ _ us hl => match us, hl with | [_, _, _, _], _ => rfl⟩
theorem dm_Sheet_set_between (X : K.In h) (G : h.Ns mainGlobals mg) (c : He.SaysD fa fn K) : Dm ⟨P, w, K, mg, base⟩ (He.ga K "Sheet") "set_between" "Sheet.set_between" s_Sheet_set_between ["self", "first", "last", "new"] := by
  obtain ⟨fd, F⟩ := c.def_ 35 (d := d_Sheet_set_between) rfl
  exact ⟨_, fd, F, He.cls_ok (c.fact 29 (f := .cls "Sheet") rfl), He.meth_ok (c.fact 48 (f := .meth "Sheet" "set_between") rfl), F.bindsN fun _ _ _ _ _ _ us hl => match us, hl with | [_, _, _, _], _ => rfl⟩
theorem dm_Sheet_write (X : K.In h) (G : h.Ns mainGlobals mg) (c : He.SaysD fa fn K) : Dm ⟨P, w, K, mg, base⟩ (He.ga K "Sheet") "write" "Sheet.write" s_Sheet_write ["self", "new"] := by
  obtain ⟨fd, F⟩ := c.def_ 36 (d := d_Sheet_write) rfl
  exact ⟨_, fd, F, He.cls_ok (c.fact 29 (f := .cls "Sheet") rfl), He.meth_ok (c.fact 49 (f := .meth "Sheet" "write") rfl), F.bindsN fun _ _ _ _ _ _ us hl => match us, hl with | [_, _], _ => rfl⟩
theorem dm_Sheet_erase (X : K.In h) (G : h.Ns mainGlobals mg) (c : He.SaysD fa fn K) : Dm ⟨P, w, K, mg, base⟩ (He.ga K "Sheet") "erase" "Sheet.erase" s_Sheet_erase ["self", "move"] := by
  obtain ⟨fd, F⟩ := c.def_ 37 (d := d_Sheet_erase) rfl
  exact ⟨_, fd, F, He.cls_ok (c.fact 29 (f := .cls "Sheet") rfl), He.meth_ok (c.fact 50 (f := .meth "Sheet" "erase") rfl), F.bindsN fun _ _ _ _ _ _ us hl => match us, hl with | [_, _], _ => rfl⟩
theorem dm_Sheet_resize (X : K.In h) (G : h.Ns mainGlobals mg) (c : He.SaysD fa fn K) : Dm ⟨P, w, K, mg, base⟩ (He.ga K "Sheet") "resize" "Sheet.resize" s_Sheet_resize ["self", "width", "height"] := by
  obtain ⟨fd, F⟩ := c.def_ 38 (d := d_Sheet_resize) rfl
  exact ⟨_, fd, F, He.cls_ok (c.fact 29 (f := .cls "Sheet") rfl), He.meth_ok (c.fact 51 (f := .meth "Sheet" "resize") rfl), F.bindsN fun _ _ _ _ _ _ us hl => match us, hl with | [_, _, _], _ => rfl⟩
theorem dm_Sheet_mark (X : K.In h) (G : h.Ns mainGlobals mg) (c : He.SaysD fa fn K) : Dm ⟨P, w, K, mg, base⟩ (He.ga K "Sheet") "mark" "Sheet.mark" s_Sheet_mark ["self", "name", "offset"] := by
  obtain ⟨fd, F⟩ := c.def_ 39 (d := d_Sheet_mark) rfl
  exact ⟨_, fd, F, He.cls_ok (c.fact 29 (f := .cls "Sheet") rfl), He.meth_ok (c.fact 52 (f := .meth "Sheet" "mark") rfl), F.bindsN fun _ _ _ _ _ _ us hl => match us, hl with | [_, _, _], _ => rfl⟩
theorem dm_Sheet_marks (X : K.In h) (G : h.Ns mainGlobals mg) (c : He.SaysD fa fn K) : Dm ⟨P, w, K, mg, base⟩ (He.ga K "Sheet") "marks" "Sheet.marks" s_Sheet_marks ["self"] := by
  obtain ⟨fd, F⟩ := c.def_ 40 (d := d_Sheet_marks) rfl
  exact ⟨_, fd, F, He.cls_ok (c.fact 29 (f := .cls "Sheet") rfl), He.meth_ok (c.fact 53 (f := .meth "Sheet" "marks") rfl), F.bindsN fun _ _ _ _ _ _ us hl => match us, hl with | [_], _ => rfl⟩
theorem dm_Sheet_view (X : K.In h) (G : h.Ns mainGlobals mg) (c : He.SaysD fa fn K) : Dm ⟨P, w, K, mg, base⟩ (He.ga K "Sheet") "view" "Sheet.view" s_Sheet_view ["self"] := by
  obtain ⟨fd, F⟩ := c.def_ 41 (d := d_Sheet_view) rfl
  exact ⟨_, fd, F, He.cls_ok (c.fact 29 (f := .cls "Sheet") rfl), He.meth_ok (c.fact 54 (f := .meth "Sheet" "view") rfl), F.bindsN fun _ _ _ _ _ _ us hl => match us, hl with | [_], _ => rfl⟩
theorem df_carried (X : K.In h) (G : h.Ns mainGlobals mg) (c : He.SaysD fa fn K) : Df ⟨P, w, K, mg, base⟩ "carried" s_carried ["offset", "first", "last", "many"] := by
  obtain ⟨fd, F⟩ := c.def_ 42 (d := d_carried) rfl
  exact ⟨_, fd, F, He.glo_ok X G (c.fact 15 (f := .glo "carried") rfl), F.bindsN fun _ _ _ _ _ _ us hl => match us, hl with | [_, _, _, _], _ => rfl⟩
theorem df__law_cell (X : K.In h) (G : h.Ns mainGlobals mg) (c : He.SaysD fa fn K) : Df ⟨P, w, K, mg, base⟩ "_law_cell" s__law_cell ["_law_script", "_law_k"] := by
  obtain ⟨fd, F⟩ := c.def_ 43 (d := d__law_cell) rfl
  exact ⟨_, fd, F, He.glo_ok X G (c.fact 16 (f := .glo "_law_cell") rfl), F.bindsN fun _ _ _ _ _ _ us hl => match us, hl with | [_, _], _ => rfl⟩
theorem df__law_mix (X : K.In h) (G : h.Ns mainGlobals mg) (c : He.SaysD fa fn K) : Df ⟨P, w, K, mg, base⟩ "_law_mix" s__law_mix ["_law_script", "_law_k"] := by
  obtain ⟨fd, F⟩ := c.def_ 44 (d := d__law_mix) rfl
  exact ⟨_, fd, F, He.glo_ok X G (c.fact 17 (f := .glo "_law_mix") rfl), F.bindsN fun _ _ _ _ _ _ us hl => match us, hl with | [_, _], _ => rfl⟩
theorem df__law_draw (X : K.In h) (G : h.Ns mainGlobals mg) (c : He.SaysD fa fn K) : Df ⟨P, w, K, mg, base⟩ "_law_draw" s__law_draw ["_law_script", "_law_town", "_law_many"] := by
  obtain ⟨fd, F⟩ := c.def_ 45 (d := d__law_draw) rfl
  exact ⟨_, fd, F, He.glo_ok X G (c.fact 18 (f := .glo "_law_draw") rfl), F.bindsN fun _ _ _ _ _ _ us hl => match us, hl with | [_, _, _], _ => rfl⟩
theorem df__law_pick (X : K.In h) (G : h.Ns mainGlobals mg) (c : He.SaysD fa fn K) : Df ⟨P, w, K, mg, base⟩ "_law_pick" s__law_pick ["_law_script", "_law_town", "_law_some"] := by
  obtain ⟨fd, F⟩ := c.def_ 46 (d := d__law_pick) rfl
  exact ⟨_, fd, F, He.glo_ok X G (c.fact 19 (f := .glo "_law_pick") rfl), F.bindsN fun _ _ _ _ _ _ us hl => match us, hl with | [_, _, _], _ => rfl⟩
theorem df_law (c : He.SaysD fa fn K) : ∃ fd, FunD K "law" "law" (defArgs s_law) (defBody s_law) (defScope s_law) [] [] (He.fAd K ("law", none)) fd ∧ ∀ (s : Shared) (v : Value), BindsTo s fd ⟨[v], []⟩ [("_law_script", v)] := by
  obtain ⟨fd, F⟩ := c.def_ 47 (d := d_law) rfl
  have b := FunD.bindsA (ps := ["_law_script"]) F fun _ _ _ _ _ _ us hl => match us, hl with | [_], _ => rfl
  exact ⟨fd, F, fun s v => b s [v] rfl⟩
end
end Hd

namespace Hd
open PySem PySem.Spec PyProof.Rows L2 CR
section
variable {P : Program} {w : World} {K : PySem.W.Frag} {h h' : Heap} {mg : Str → Option Value}
theorem great_eq : (Str.ofString "ABCDEFGHIJKLMNOPQRSTUVWXYZ").cps.toList = greatL := by decide +kernel
theorem letters_eq : (Str.ofString "abcdefghijklmnopqrstuvwxyzABCDEFGHIJKLMNOPQRSTUVWXYZ0123456789").cps.toList = lettersL := by decide +kernel
theorem glv_moves {base : Heap} (X : K.In h) (G : h.Ns mainGlobals mg) (c : (He.Fa.glo "MOVES").ok K = true) (c2 : He.tupB K "MOVES" [.str "left", .str "right", .str "wordleft", .str "wordright", .str "up", .str "down", .str "pageup", .str "pagedown", .str "home", .str "end", .str "top", .str "bottom", .str "paraup", .str "paradown"] = true) : GlV ⟨P, w, K, mg, base⟩ "MOVES" (.tup movesD) :=
  glv_tup X G (allMv.map mvStr) c c2
theorem glv_vert {base : Heap} (X : K.In h) (G : h.Ns mainGlobals mg) (c : (He.Fa.glo "VERTICAL").ok K = true) (c2 : He.tupB K "VERTICAL" [.str "up", .str "down", .str "pageup", .str "pagedown"] = true) : GlV ⟨P, w, K, mg, base⟩ "VERTICAL" (.tup vertD) :=
  glv_tup X G ([Mv.up, .down, .pageup, .pagedown].map mvStr) c c2
theorem closes {f : Addr} (X : K.In h) (G : h.Ns mainGlobals mg) (cx : He.SaysX fa fn [] [] ex w h' K) (hfa : mg ("law" : Str) = some (.ref f)) :
    ∃ fd : FuncData, (∀ (s : Shared) (v : Value), BindsTo s fd ⟨[v], []⟩ [("_law_script", v)]) ∧ ∀ base : Heap, K.In base → base.Ns mainGlobals mg → OkD ⟨P, w, K, mg, base⟩ 11 f fd ["_law_script"] spLaw := by
  have c := cx.t.d
  obtain ⟨fd, F, b⟩ := df_law c
  have e := hfa.symm.trans (He.glo_ok X G (fc_glo_law c))
  cases e
  refine ⟨fd, b, fun base _ _ => ?_⟩
  have fr : ∀ x : Str, (He.Fa.free x).ok K = true → mg x = none := fun x hx => He.free_ok X G hx
  obtain ⟨hkMV, hk1⟩ := and2 cx.more
  obtain ⟨hkM, hkV⟩ := and2 hkMV
  let Γ : Wd := ⟨P, w, K, mg, base⟩
  have xT : ExK Γ "BadText" _ := exk X G (fc_glo_BadText c) (fc_exc_BadText c)
  have xS : ExK Γ "BadSize" _ := exk X G (fc_glo_BadSize c) (fc_exc_BadSize c)
  have xP : ExK Γ "BadPlace" _ := exk X G (fc_glo_BadPlace c) (fc_exc_BadPlace c)
  have xM : ExK Γ "BadMove" _ := exk X G (fc_glo_BadMove c) (fc_exc_BadMove c)
  have b_len : Γ.mg "len" = none := fr _ (fc_free_len c)
  have b_all : Γ.mg "all" = none := fr _ (fc_free_all c)
  have b_ord : Γ.mg "ord" = none := fr _ (fc_free_ord c)
  have b_range : Γ.mg "range" = none := fr _ (fc_free_range c)
  have b_abs : Γ.mg "abs" = none := fr _ (fc_free_abs c)
  have b_min : Γ.mg "min" = none := fr _ (fc_free_min c)
  have b_max : Γ.mg "max" = none := fr _ (fc_free_max c)
  have b_list : Γ.mg "list" = none := fr _ (fc_free_list c)
  have b_sorted : Γ.mg "sorted" = none := fr _ (fc_free_sorted c)
  have b_sum : Γ.mg "sum" = none := fr _ (fc_free_sum c)
  have b_ve : Γ.mg "ValueError" = none := fr _ (fc_free_ValueError c)
  have gM : GlV Γ "MOST_TEXT" (.int 2000) := glv_int X G (fc_int_MOST_TEXT c)
  have gW : GlV Γ "MOST_WIDTH" (.int 200) := glv_int X G (fc_int_MOST_WIDTH c)
  have gG : GlV Γ "GREAT" (.str greatL) := by rw [← great_eq]; exact glv_str X G (fc_str_GREAT c)
  have gl : ∀ x : Str, (He.Fa.glo x).ok K = true → GlV Γ x (.ref (He.ga K x)) := fun x hx => glv_ref X G hx
  have f1 : Fld Γ (He.ga K "Row") "start" := fld (fc_cls_Row c) (fc_noat_Row_start c)
  have f2 : Fld Γ (He.ga K "Row") "end" := fld (fc_cls_Row c) (fc_noat_Row_end c)
  have f3 : Fld Γ (He.ga K "Row") "is_soft" := fld (fc_cls_Row c) (fc_noat_Row_is_soft c)
  have h_is_text : Fn Γ "is_text" 1 spIsText := fn_df (df_is_text X G c) fun f fd F => ok_is_text F b_len b_all b_ord gM
  have h_look_text : Fn Γ "look_text" 2 (spLookText _) := fn_df (df_look_text X G c) fun f fd F => ok_look_text F h_is_text xT
  have h_look_width : Fn Γ "look_width" 1 (spLookWidth _) := fn_df (df_look_width X G c) fun f fd F => ok_look_width F gW xS
  have h_wide : Fn Γ "wide" 1 spWide := fn_df (df_wide X G c) fun f fd F => ok_wide F b_len gG
  have h_Row : Cn Γ "Row" (He.ga K "Row") 1 (spRowI _) := cn_dc (dc_Row X G c) fun f fd F => ok_row_init F f1 f2 f3
  have h_told : Mt Γ (He.ga K "Row") "told" 1 (spTold _) := mt_dm (dm_Row_told X G c) fun f fd F => ok_row_told F f1 f2 f3
  have h_fitting : Fn Γ "fitting" 2 spFit := fn_df (df_fitting X G c) fun f fd F => ok_fitting F h_wide
  have h_row_end : Fn Γ "row_end" 3 spRowEnd := fn_df (df_row_end X G c) fun f fd F => ok_row_end F h_fitting
  have h_parrows : Fn Γ "paragraph_rows" 4 (spParRows _) := fn_df (df_paragraph_rows X G c) fun f fd F => ok_paragraph_rows F h_row_end h_Row
  have h_paras : Fn Γ "paragraphs" 1 spParas := fn_df (df_paragraphs X G c) fun f fd F => ok_paragraphs F b_len
  have h_rows_of : Fn Γ "rows_of" 5 (spRowsOf _) := fn_df (df_rows_of X G c) fun f fd F => ok_rows_of F h_paras h_parrows
  have h_row_at : Fn Γ "row_at" 1 (spRowAt _) := fn_df (df_row_at X G c) fun f fd F => ok_row_at F b_range b_len f2 f3
  have h_column : Fn Γ "column_of" 2 (spColumn _) := fn_df (df_column_of X G c) fun f fd F => ok_column_of F h_wide f1
  have h_near : Fn Γ "offset_at" 3 (spOffsetAt _) := fn_df (df_offset_at X G c) fun f fd F => ok_offset_at F h_column b_range b_abs f1 f2
  have h_look_offset : Fn Γ "look_offset" 1 (spLookOffset _) := fn_df (df_look_offset X G c) fun f fd F => ok_look_offset F b_len xP
  have h_soft : Fn Γ "is_soft_end" 1 (spSoftEnd _) := fn_df (df_is_soft_end X G c) fun f fd F => ok_is_soft_end F f2 f3
  have KS : FSh Γ (He.ga K "Sheet") := ⟨fld (fc_cls_Sheet c) (fc_noat_Sheet_now c), fld (fc_cls_Sheet c) (fc_noat_Sheet_width c), fld (fc_cls_Sheet c) (fc_noat_Sheet_height c), fld (fc_cls_Sheet c) (fc_noat_Sheet_caret c), fld (fc_cls_Sheet c) (fc_noat_Sheet_is_back c), fld (fc_cls_Sheet c) (fc_noat_Sheet_anchor c), fld (fc_cls_Sheet c) (fc_noat_Sheet_wish c), fld (fc_cls_Sheet c) (fc_noat_Sheet_first c), fld (fc_cls_Sheet c) (fc_noat_Sheet_marked c)⟩
  have gH : GlV Γ "MOST_HEIGHT" (.int 100) := glv_int X G (fc_int_MOST_HEIGHT c)
  have gL : GlV Γ "LETTERS" (.str lettersL) := by rw [← letters_eq]; exact glv_str X G (fc_str_LETTERS c)
  have gMo : GlV Γ "MOVES" (.tup movesD) := glv_moves X G (fc_glo_MOVES c) hkM
  have gVe : GlV Γ "VERTICAL" (.tup vertD) := glv_vert X G (fc_glo_VERTICAL c) hkV
  have h_Sheet : Cn Γ "Sheet" (He.ga K "Sheet") 3 (spSInit _ _ _) := cn_dc (dc_Sheet X G c) fun f fd F => ok_sheet_init F KS h_look_text h_look_width gH xS
  have hs_text : Mt Γ (He.ga K "Sheet") "text" 1 (spSText _) := mt_dm (dm_Sheet_text X G c) fun f fd F => ok_sheet_text F KS
  have hs_rows : Mt Γ (He.ga K "Sheet") "rows" 6 (spSRows _ _) := mt_dm (dm_Sheet_rows X G c) fun f fd F => ok_sheet_rows F KS h_rows_of
  have hs_at : Mt Γ (He.ga K "Sheet") "at" 7 (spSAt _) := mt_dm (dm_Sheet_at X G c) fun f fd F => ok_sheet_at F KS hs_rows h_row_at h_column
  have hs_chosen : Mt Γ (He.ga K "Sheet") "chosen" 1 (spSChosen _) := mt_dm (dm_Sheet_chosen X G c) fun f fd F => ok_sheet_chosen F KS b_min b_max
  have hs_scroll : Mt Γ (He.ga K "Sheet") "scroll" 7 (spSScroll _) := mt_dm (dm_Sheet_scroll X G c) fun f fd F => ok_sheet_scroll F KS hs_rows h_row_at b_min b_max b_len
  have hs_put : Mt Γ (He.ga K "Sheet") "put" 8 (spSPut _) := mt_dm (dm_Sheet_put X G c) fun f fd F => ok_sheet_put F KS hs_rows h_row_at h_soft hs_scroll
  have hs_go : Mt Γ (He.ga K "Sheet") "go" 9 (spSGo _ _) := mt_dm (dm_Sheet_go X G c) fun f fd F => ok_sheet_go F KS hs_put h_look_offset
  have hs_is_letter : Mt Γ (He.ga K "Sheet") "is_letter" 1 (spSLetter _) := mt_dm (dm_Sheet_is_letter X G c) fun f fd F => ok_sheet_letter F KS b_len gL
  have hs_word_right : Mt Γ (He.ga K "Sheet") "word_right" 2 (spSWordR _) := mt_dm (dm_Sheet_word_right X G c) fun f fd F => ok_sheet_word_right F KS hs_is_letter b_len
  have hs_word_left : Mt Γ (He.ga K "Sheet") "word_left" 2 (spSWordL _) := mt_dm (dm_Sheet_word_left X G c) fun f fd F => ok_sheet_word_left F KS hs_is_letter
  have hs_flat_goal : Mt Γ (He.ga K "Sheet") "flat_goal" 3 (spSFlat _) := mt_dm (dm_Sheet_flat_goal X G c) fun f fd F => ok_sheet_flat F KS hs_word_left hs_word_right b_len b_min b_max
  have hs_move_rows : Mt Γ (He.ga K "Sheet") "move_rows" 9 (spSMoveRows _) := mt_dm (dm_Sheet_move_rows X G c) fun f fd F => ok_sheet_move_rows F KS hs_rows h_row_at h_column hs_put h_near h_soft b_len b_min b_max
  have hs_move : Mt Γ (He.ga K "Sheet") "move" 10 (spSMove _ _) := mt_dm (dm_Sheet_move X G c) fun f fd F => ok_sheet_move F KS hs_chosen hs_rows h_row_at hs_put hs_move_rows hs_flat_goal gMo gVe xM f1 f2
  have h_carried : Fn Γ "carried" 1 spCarried := fn_df (df_carried X G c) fun f fd F => ok_carried F 
  have hs_set_between : Mt Γ (He.ga K "Sheet") "set_between" 2 (spSBetween _) := mt_dm (dm_Sheet_set_between X G c) fun f fd F => ok_sheet_between F KS h_carried b_list b_len
  have hs_change : Mt Γ (He.ga K "Sheet") "change" 3 (spSChange _ _) := mt_dm (dm_Sheet_change X G c) fun f fd F => ok_sheet_change F KS h_is_text hs_set_between xT
  have hs_write : Mt Γ (He.ga K "Sheet") "write" 9 (spSWrite _ _) := mt_dm (dm_Sheet_write X G c) fun f fd F => ok_sheet_write F KS hs_chosen hs_change hs_put b_len
  have hs_marks : Mt Γ (He.ga K "Sheet") "marks" 1 (spSMarks _) := mt_dm (dm_Sheet_marks X G c) fun f fd F => ok_sheet_marks F KS b_sorted
  have l_cell : Fn Γ "_law_cell" 1 spCell := fn_df (df__law_cell X G c) fun f fd F => ok_cell F b_len
  have l_mix : Fn Γ "_law_mix" 2 spMix := fn_df (df__law_mix X G c) fun f fd F => ok_mix F l_cell
  have l_draw : Fn Γ "_law_draw" 3 spDraw := fn_df (df__law_draw X G c) fun f fd F => ok_draw F l_mix b_len
  have l_pick : Fn Γ "_law_pick" 4 spPick := fn_df (df__law_pick X G c) fun f fd F => ok_pick F l_draw b_len
  exact ok_law F l_draw l_pick h_Sheet hs_at hs_go hs_move b_range b_len b_sum b_min b_max
end
end Hd

end

open PySem PySem.W PySem.Calls PyProof.Rows
theorem PySem.Challenge.cw_caretrows_k23_whole_wished_holds : PySem.Challenge.rw_caretrows_k23_whole_wished.Holds := by
  w_on; o_law
  refine HandSHeadRun.head_any (r := OpenLaw.row PySem.Challenge.rw_caretrows_k23_whole_wished) (q := view (OpenLaw.row PySem.Challenge.rw_caretrows_k23_whole_wished).prog [39]) (H := Hd.hk) (ob := Hd.ob) (M := 6000) (loose := Hd.names) (d := HandSHeadRun.topDef (OpenLaw.row PySem.Challenge.rw_caretrows_k23_whole_wished).prog 39) (kwd := []) Hd.ob_eq
    (by kernel_rfl) (fun s => by kernel_rfl) Hd.run (by kernel_rfl) (by kernel_rfl) (by kernel_rfl) (by rfl) (by first | assumption | decide +kernel) (by decide +kernel) ⟨rfl, rfl, rfl, rfl, rfl, by decide +kernel⟩ ?hw ?hc
  case hw => w_witness2
  case hc =>
    refine CR.walk_law (l := PySem.Challenge.rw_caretrows_k23_whole_wished) (n := 63) (k := 11) (x := "_law_script") rfl (by decide) (by kernel_rfl) ⟨rfl, by decide, by decide⟩ (fun ns S Q E h => Hd.spLaw.mk h) ?F
    intro w mg fa h Y G hmg0
    obtain ⟨K, KX, c⟩ := Y
    have hmg : mg ("law" : PySem.Str) = some (.ref fa) := by
      have e : (HandSHeadRun.topDef (OpenLaw.row PySem.Challenge.rw_caretrows_k23_whole_wished).prog 39).name = ("law" : PySem.Str) := by kernel_rfl
      rw [← e]
      exact hmg0
    obtain ⟨fd, hb, hF⟩ := Hd.closes (P := (PySem.Challenge.rw_caretrows_k23_whole_wished).prog) (w := w) KX G c hmg
    exact ⟨K, fd, KX, hb, hF⟩
