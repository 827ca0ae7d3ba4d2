import PyProof.Rows.All
import Wide.All
import OpenK.AllK
import Wide.FinOn
import HandS.ForMost
import HandS.Exc
import HandS.TryOnly
import HandS.ExcOwn
import HandS.WordsExc
import HandS.Replace
import HandS.StrMore
import HandS.More
import HandS.IsInst
import HandS.ExcIs
import HandS.Conv
import HandS.DictComp
import HandS.Style
import HandS.Zip
import HandS.Flow
import HandS.Codes
import KE.GoesEnum
import KE.GoesMore
import PyProof.ToksMono
import PyProof.EnumMake
import HandS.ReplaceLit
import HandS.Walk
import PySem.Challenge.RW_plainway_k06_tables_refused
set_option Elab.async false
set_option linter.all false
set_option maxRecDepth 100000
set_option maxHeartbeats 4000000
/-! Signs, names, parts, steps: plain lists of codes. -/
namespace Pw
/-! ### signs -/
def signs : List Nat := [32, 33, 34, 35, 36, 38, 39, 40, 41, 42, 43, 44, 45, 46, 47, 48, 49, 50, 51, 52, 53, 54, 55, 56, 57, 58, 59, 60, 61, 62, 63, 64, 65, 66, 67, 68, 69, 70, 71, 72, 73, 74, 75, 76, 77, 78, 79, 80, 81, 82, 83, 84, 85, 86, 87, 88, 89, 90, 91, 92, 93, 94, 95, 96, 97, 98, 99, 100, 101, 102, 103, 104, 105, 106, 107, 108, 109, 110, 111, 112, 113, 114, 115, 116, 117, 118, 119, 120, 121, 122, 123, 124, 125, 126]
theorem signs_len : signs.length = 94 := by decide
def signAt (n : Nat) : Nat := signs.getD n 0
def numOf (c : Nat) : Nat := if c < 37 then c - 32 else c - 33
def Sign (c : Nat) : Prop := c ∈ signs
instance (c : Nat) : Decidable (Sign c) := inferInstanceAs (Decidable (c ∈ signs))
theorem signs_get {n : Nat} (h : n < 94) : signs[n]? = some (signAt n) := by
  have h2 : n < signs.length := h
  rw [signAt, List.getD_eq_getElem?_getD, List.getElem?_eq_getElem h2]
  rfl
theorem signAt_sign {n : Nat} (h : n < 94) : Sign (signAt n) := List.mem_of_getElem? (signs_get h)
theorem all_signs : ∀ c ∈ signs, numOf c < 94 ∧ signAt (numOf c) = c := by decide
theorem numOf_lt {c : Nat} (h : Sign c) : numOf c < 94 := (all_signs c h).1
theorem signAt_num {c : Nat} (h : Sign c) : signAt (numOf c) = c := (all_signs c h).2
theorem num_signs : ∀ n < 94, numOf (signAt n) = n := by decide
theorem signs_nodup : signs.Nodup := by decide
/-! ### escapes -/
def esc (c : Nat) : List Nat := [126, 48 + numOf c / 10, 48 + numOf c % 10]
def fig (c : Nat) : Bool := decide (48 ≤ c ∧ c ≤ 57)
/-- the number that two figures tell, where they are two and below 94 -/
def two (a b : Nat) : Option Nat := if fig a = true ∧ fig b = true ∧ 10 * (a - 48) + (b - 48) < 94 then some (10 * (a - 48) + (b - 48)) else none
/-- what stands behind a ~ -/
def signOf : List Nat → Option Nat
  | [a, b] => (two a b).map signAt
  | _ => none
def nameOf : List Nat → Option (List Nat)
  | [] => some []
  | [c] => if c = 126 then none else some [c]
  | [c, a] => if c = 126 then none else (nameOf [a]).map (c :: ·)
  | c :: a :: b :: r => if c = 126 then (match two a b with | some n => (nameOf r).map (signAt n :: ·) | none => none) else (nameOf (a :: b :: r)).map (c :: ·)
theorem nameOf_plain {c : Nat} (h : c ≠ 126) (r : List Nat) : nameOf (c :: r) = (nameOf r).map (c :: ·) := by
  match r with
  | [] => simp [nameOf, h]
  | [a] =>
    show (if c = 126 then none else (nameOf [a]).map (c :: ·)) = _
    rw [if_neg h]
  | a :: b :: r => rw [nameOf, if_neg h]
theorem nameOf_esc (r : List Nat) : nameOf (126 :: r) = (match signOf (r.take 2) with | some s => (nameOf (r.drop 2)).map (s :: ·) | none => none) := by
  match r with
  | [] => simp [nameOf, signOf]
  | [a] => simp [nameOf, signOf]
  | a :: b :: r =>
    rw [nameOf, if_pos rfl]
    show _ = (match signOf [a, b] with | some s => (nameOf r).map (s :: ·) | none => none)
    cases h : two a b with
    | none => simp [signOf, h]
    | some n => simp [signOf, h]
theorem two_num {n : Nat} (h : n < 94) : two (48 + n / 10) (48 + n % 10) = some n := by
  have h1 : n / 10 ≤ 9 := by omega
  have h2 : n % 10 ≤ 9 := by omega
  unfold two
  have e : 10 * (48 + n / 10 - 48) + (48 + n % 10 - 48) = n := by omega
  rw [e, if_pos]
  refine ⟨?_, ?_, h⟩
  · exact decide_eq_true (by omega)
  · exact decide_eq_true (by omega)
theorem nameOf_esc_num {n : Nat} (h : n < 94) (r : List Nat) : nameOf (126 :: (48 + n / 10) :: (48 + n % 10) :: r) = (nameOf r).map (signAt n :: ·) := by
  rw [nameOf, if_pos rfl, two_num h]
theorem nameOf_escC {c : Nat} (h : Sign c) (r : List Nat) : nameOf (esc c ++ r) = (nameOf r).map (c :: ·) := by
  show nameOf (126 :: (48 + numOf c / 10) :: (48 + numOf c % 10) :: r) = _
  rw [nameOf_esc_num (numOf_lt h), signAt_num h]
theorem nameOf_len : ∀ (l m : List Nat), nameOf l = some m → m.length ≤ l.length
  | [], m, h => by
    cases h
    exact Nat.le_refl 0
  | [c], m, h => by
    rw [nameOf] at h
    split at h
    · cases h
    · cases h
      exact Nat.le_refl 1
  | [c, a], m, h => by
    rw [nameOf] at h
    split at h
    · cases h
    · obtain ⟨m', h1, rfl⟩ := Option.map_eq_some_iff.mp h
      have := nameOf_len [a] m' h1
      simp at this ⊢
      omega
  | c :: a :: b :: r, m, h => by
    rw [nameOf] at h
    split at h
    · split at h
      · obtain ⟨m', h1, rfl⟩ := Option.map_eq_some_iff.mp h
        have := nameOf_len r m' h1
        simp at this ⊢
        omega
      · cases h
    · obtain ⟨m', h1, rfl⟩ := Option.map_eq_some_iff.mp h
      have := nameOf_len (a :: b :: r) m' h1
      simp at this ⊢
      omega
/-! ### names written -/
def Named (n : List Nat) : Prop := ∀ c ∈ n, Sign c
def must (n : List Nat) (i c : Nat) : Bool := decide (c = 47) || decide (c = 126) || (decide (i = 0) && (decide (c = 64) || decide (n = [46]) || decide (n = [46, 46])))
def piece (n : List Nat) (i c : Nat) : List Nat := if must n i c = true then esc c else [c]
/-- the pieces of the signs from the i-th on -/
def pieces (n : List Nat) : Nat → List Nat → List Nat
  | _, [] => []
  | i, c :: r => piece n i c ++ pieces n (i + 1) r
def written (n : List Nat) : List Nat := pieces n 0 n
theorem pieces_append (n : List Nat) : ∀ (a b : List Nat) (i : Nat), pieces n i (a ++ b) = pieces n i a ++ pieces n (i + a.length) b
  | [], b, i => by simp [pieces]
  | c :: a, b, i => by
    rw [List.cons_append, pieces, pieces, pieces_append n a b (i + 1), List.append_assoc, List.length_cons]
    congr 3
    omega
theorem pieces_take (n : List Nat) {i c : Nat} (h : n[i]? = some c) : pieces n 0 (n.take (i + 1)) = pieces n 0 (n.take i) ++ piece n i c := by
  have hi : i < n.length := (List.getElem?_eq_some_iff.mp h).1
  rw [List.take_add_one, h, pieces_append]
  have e : 0 + (n.take i).length = i := by
    rw [List.length_take]
    omega
  rw [e]
  show _ ++ (piece n i c ++ []) = _
  rw [List.append_nil]
theorem piece_len (n : List Nat) (i c : Nat) : 1 ≤ (piece n i c).length ∧ (piece n i c).length ≤ 3 := by
  unfold piece
  split <;> simp [esc]
theorem pieces_len (n : List Nat) : ∀ (l : List Nat) (i : Nat), l.length ≤ (pieces n i l).length ∧ (pieces n i l).length ≤ 3 * l.length
  | [], i => by simp [pieces]
  | c :: r, i => by
    have h1 := piece_len n i c
    have h2 := pieces_len n r (i + 1)
    simp only [pieces, List.length_append, List.length_cons]
    omega
theorem written_len (n : List Nat) : (written n).length ≤ 3 * n.length := (pieces_len n n 0).2
theorem nameOf_piece (n : List Nat) (i : Nat) {c : Nat} (hc : Sign c) (r : List Nat) : nameOf (piece n i c ++ r) = (nameOf r).map (c :: ·) := by
  unfold piece
  split
  · exact nameOf_escC hc r
  · rename_i h
    have h126 : c ≠ 126 := by
      intro e
      apply h
      subst e
      simp [must]
    exact nameOf_plain h126 r
theorem nameOf_pieces (n : List Nat) : ∀ (l : List Nat) (i : Nat), Named l → nameOf (pieces n i l) = some l
  | [], i, _ => rfl
  | c :: r, i, h => by
    rw [pieces, nameOf_piece n i (h c List.mem_cons_self), nameOf_pieces n r (i + 1) fun x hx => h x (List.mem_cons_of_mem _ hx)]
    rfl
theorem nameOf_written {n : List Nat} (h : Named n) : nameOf (written n) = some n := nameOf_pieces n n 0 h
/-! what a written name is not -/
theorem numOf_le (c : Nat) (h : Sign c) : 48 + numOf c / 10 ≤ 57 ∧ 48 + numOf c % 10 ≤ 57 := by
  have := numOf_lt h
  omega
theorem esc_free {c : Nat} (h : Sign c) : 47 ∉ esc c := by
  intro hm
  have := numOf_le c h
  simp [esc] at hm
  omega
theorem piece_free (n : List Nat) (i : Nat) {c : Nat} (h : Sign c) : 47 ∉ piece n i c := by
  unfold piece
  split
  · exact esc_free h
  · rename_i h2
    intro hm
    have e : c = 47 := (List.mem_singleton.mp hm).symm
    apply h2
    subst e
    simp [must]
theorem pieces_free (n : List Nat) : ∀ (l : List Nat) (i : Nat), Named l → 47 ∉ pieces n i l
  | [], i, _ => by simp [pieces]
  | c :: r, i, h => by
    rw [pieces]
    intro hm
    rcases List.mem_append.mp hm with q | q
    · exact piece_free n i (h c List.mem_cons_self) q
    · exact pieces_free n r (i + 1) (fun x hx => h x (List.mem_cons_of_mem _ hx)) q
theorem written_free {n : List Nat} (h : Named n) : 47 ∉ written n := pieces_free n n 0 h
/-- the part's first sign is no @, and the part is no dots and not empty -/
structure PlainPart (p : List Nat) : Prop where
  ne : p ≠ []
  dot : p ≠ [46]
  dots : p ≠ [46, 46]
  at_ : p.head? ≠ some 64
theorem written_plain {n : List Nat} (h0 : n ≠ []) : PlainPart (written n) := by
  match n, h0 with
  | [], h => exact absurd rfl h
  | c :: r, _ =>
    have hw : written (c :: r) = piece (c :: r) 0 c ++ pieces (c :: r) 1 r := rfl
    have hl := pieces_len (c :: r) r 1
    have hp : piece (c :: r) 0 c = esc c ∨ (piece (c :: r) 0 c = [c] ∧ c ≠ 64 ∧ (c :: r) ≠ [46] ∧ (c :: r) ≠ [46, 46]) := by
      unfold piece
      split
      · exact .inl rfl
      · rename_i h
        refine .inr ⟨rfl, ?_, ?_, ?_⟩
        · intro e
          apply h
          simp [must, e]
        · intro e
          apply h
          simp [must, e]
        · intro e
          apply h
          simp [must, e]
    rcases hp with e | ⟨e, h1, h2, h3⟩
    · rw [hw, e]
      constructor
      · simp [esc]
      · simp [esc]
      · simp [esc]
      · simp [esc]
    · rw [hw, e]
      constructor
      · simp
      · intro q
        have q1 : c = 46 := by
          have := congrArg List.head? q
          simpa using this
        have q2 : pieces (c :: r) 1 r = [] := by
          have := congrArg List.tail q
          simpa using this
        have q3 : r = [] := by
          rw [q2] at hl
          exact List.length_eq_zero_iff.mp (by simpa using hl.1)
        exact h2 (by rw [q1, q3])
      · intro q
        have q1 : c = 46 := by
          have := congrArg List.head? q
          simpa using this
        have q2 : pieces (c :: r) 1 r = [46] := by
          have := congrArg List.tail q
          simpa using this
        match r, q2, h2, h3, hl with
        | [], q2, h2, h3, hl => exact absurd (by rw [q1]) h2
        | d :: r, q2, h2, h3, hl =>
          rw [q2] at hl
          have q3 : r = [] := by
            apply List.length_eq_zero_iff.mp
            have := hl.1
            simp only [List.length_cons, List.length_nil] at this
            omega
          subst q3
          have q4 : piece (c :: [d]) 1 d = [46] := by
            have : piece (c :: [d]) 1 d ++ pieces (c :: [d]) 2 [] = [46] := q2
            simpa [pieces] using this
          have q5 : d = 46 := by
            unfold piece at q4
            split at q4
            · simp [esc] at q4
            · simpa using q4
          exact h3 (by rw [q1, q5])
      · simpa using h1
/-! ### steps -/
inductive Step where
  | root | up | share (n : List Nat) | name (n : List Nat)
  deriving DecidableEq
def stepOf (p : List Nat) : Option (List Step) :=
  if p = [] ∨ p = [46] then some [] else if p = [46, 46] then some [.up] else if p.head? = some 64 then (nameOf p.tail).map fun n => [.share n] else (nameOf p).map fun n => [.name n]
def splitS : List Nat → List (List Nat)
  | [] => [[]]
  | c :: r => if c = 47 then [] :: splitS r else (match splitS r with | h :: t => (c :: h) :: t | [] => [[c]])
def joinS : List (List Nat) → List Nat
  | [] => []
  | [x] => x
  | x :: y :: r => x ++ 47 :: joinS (y :: r)
theorem splitS_ne : ∀ l, splitS l ≠ []
  | [] => by simp [splitS]
  | c :: r => by
    rw [splitS]
    split
    · simp
    · split <;> simp
theorem splitS_free : ∀ {p : List Nat}, 47 ∉ p → splitS p = [p]
  | [], _ => rfl
  | c :: r, h => by
    have hc : c ≠ 47 := fun e => h (by rw [e]; exact List.mem_cons_self)
    have hr : 47 ∉ r := fun m => h (List.mem_cons_of_mem _ m)
    rw [splitS, if_neg hc, splitS_free hr]
theorem splitS_app : ∀ {p : List Nat} (r : List Nat), 47 ∉ p → splitS (p ++ 47 :: r) = p :: splitS r
  | [], r, _ => by
    show splitS (47 :: r) = _
    rw [splitS, if_pos rfl]
  | c :: p, r, h => by
    have hc : c ≠ 47 := fun e => h (by rw [e]; exact List.mem_cons_self)
    have hr : 47 ∉ p := fun m => h (List.mem_cons_of_mem _ m)
    rw [List.cons_append, splitS, if_neg hc, splitS_app r hr]
theorem split_join : ∀ {ps : List (List Nat)}, ps ≠ [] → (∀ p ∈ ps, 47 ∉ p) → splitS (joinS ps) = ps
  | [], h, _ => absurd rfl h
  | [x], _, h => splitS_free (h x List.mem_cons_self)
  | x :: y :: r, _, h => by
    rw [joinS, splitS_app _ (h x List.mem_cons_self), split_join (by simp) fun p hp => h p (List.mem_cons_of_mem _ hp)]
theorem join_split : ∀ l, joinS (splitS l) = l
  | [] => rfl
  | c :: r => by
    rw [splitS]
    have ih := join_split r
    split
    · rename_i h
      subst h
      match e : splitS r, splitS_ne r with
      | a :: t, _ =>
        rw [e] at ih
        show [] ++ 47 :: joinS (a :: t) = _
        rw [ih]
        rfl
    · match e : splitS r, splitS_ne r with
      | [a], _ =>
        rw [e] at ih
        show c :: a = _
        have : a = r := ih
        rw [this]
      | a :: b :: t, _ =>
        rw [e] at ih
        show (c :: a) ++ 47 :: joinS (b :: t) = _
        have : a ++ 47 :: joinS (b :: t) = r := ih
        rw [List.cons_append, this]
def rootOf (l : List Nat) : List Step := if l.head? = some 47 then [.root] else []
/-- the steps of parts, in order -/
def stepsP : List (List Nat) → Option (List Step)
  | [] => some []
  | p :: r => match stepOf p with | none => none | some s => (stepsP r).map (s ++ ·)
def stepsOf (l : List Nat) : Option (List Step) := (stepsP (splitS l)).map (rootOf l ++ ·)
theorem stepsP_append : ∀ (a b : List (List Nat)), stepsP (a ++ b) = (match stepsP a with | none => none | some s => (stepsP b).map (s ++ ·))
  | [], b => by
    show stepsP b = (stepsP b).map ([] ++ ·)
    cases stepsP b <;> simp
  | p :: a, b => by
    rw [List.cons_append, stepsP, stepsP]
    cases stepOf p with
    | none => rfl
    | some s =>
      show (stepsP (a ++ b)).map (s ++ ·) = _
      rw [stepsP_append a b]
      cases stepsP a with
      | none => rfl
      | some u =>
        show ((stepsP b).map (u ++ ·)).map (s ++ ·) = (stepsP b).map ((s ++ u) ++ ·)
        cases stepsP b <;> simp
theorem stepOf_name {p n : List Nat} (h : PlainPart p) (e : nameOf p = some n) : stepOf p = some [.name n] := by
  rw [stepOf, if_neg (fun q => q.elim h.ne h.dot), if_neg h.dots, if_neg h.at_, e]
  rfl
theorem stepOf_share {p n : List Nat} (e : nameOf p = some n) : stepOf (64 :: p) = some [.share n] := by
  rw [stepOf, if_neg (by simp), if_neg (by simp), if_pos (by rfl)]
  show (nameOf p).map _ = _
  rw [e]
  rfl
end Pw
namespace Pw
theorem drop_get {α : Type} {l : List α} {i : Nat} {x : α} (h : l[i]? = some x) : l.drop i = x :: l.drop (i + 1) := by
  obtain ⟨h1, e⟩ := List.getElem?_eq_some_iff.mp h
  rw [← e]
  exact List.drop_eq_getElem_cons h1
theorem read_plain {l f : List Nat} {i c : Nat} (h : l[i]? = some c) (hc : c ≠ 126) (inv : nameOf l = (nameOf (l.drop i)).map (f ++ ·)) : nameOf l = (nameOf (l.drop (i + 1))).map ((f ++ [c]) ++ ·) := by
  rw [inv, drop_get h, nameOf_plain hc, Option.map_map]
  congr 1
  funext m
  simp
theorem read_escN {l f : List Nat} {i : Nat} (h : l[i]? = some 126) (hs : signOf ((l.drop (i + 1)).take 2) = none) (inv : nameOf l = (nameOf (l.drop i)).map (f ++ ·)) : nameOf l = none := by
  rw [inv, drop_get h, nameOf_esc, hs]
  rfl
theorem read_escS {l f : List Nat} {i s : Nat} (h : l[i]? = some 126) (hs : signOf ((l.drop (i + 1)).take 2) = some s) (inv : nameOf l = (nameOf (l.drop i)).map (f ++ ·)) : nameOf l = (nameOf (l.drop (i + 3))).map ((f ++ [s]) ++ ·) := by
  rw [inv, drop_get h, nameOf_esc, hs]
  show ((nameOf ((l.drop (i + 1)).drop 2)).map (s :: ·)).map (f ++ ·) = _
  rw [List.drop_drop, Option.map_map]
  congr 1
  funext m
  simp
theorem read_end {l f : List Nat} {i : Nat} (h : l.length ≤ i) (inv : nameOf l = (nameOf (l.drop i)).map (f ++ ·)) : nameOf l = some f := by
  rw [inv, List.drop_of_length_le h]
  simp [nameOf]
theorem signOf_len {l : List Nat} {s : Nat} (h : signOf l = some s) : l.length = 2 := by
  unfold signOf at h
  split at h
  · rfl
  · cases h
theorem signOf_two {a b : Nat} (h1 : fig a = true) (h2 : fig b = true) (h3 : 10 * (a - 48) + (b - 48) < 94) : signOf [a, b] = some (signAt (10 * (a - 48) + (b - 48))) := by
  simp [signOf, two, h1, h2, h3]
theorem signOf_no1 {a b : Nat} (h : ¬ fig a = true) : signOf [a, b] = none := by
  simp [signOf, two, h]
theorem signOf_no2 {a b : Nat} (h : ¬ fig b = true) : signOf [a, b] = none := by
  simp [signOf, two, h]
theorem signOf_no3 {a b : Nat} (h : ¬ 10 * (a - 48) + (b - 48) < 94) : signOf [a, b] = none := by
  simp [signOf, two, h]
end Pw

/-! Rules over texts as lists of codes. -/
namespace Pw
open PySem PySem.Spec PyProof.Rows L2

/-! ### texts -/
abbrev S (l : List Nat) : Str := ⟨l.toArray⟩
def vS (l : List Nat) : V := V.str (S l)
theorem tl_S (l : List Nat) : TL.tl (S l) = l := rfl
theorem S_tl (x : Str) : S (TL.tl x) = x := TL.mk_tl x
theorem S_inj {a b : List Nat} (h : S a = S b) : a = b := by
  have := congrArg TL.tl h
  exact this
theorem S_len (l : List Nat) : (S l).length = l.length := by
  rw [TL.len_tl]
theorem S_app (a b : List Nat) : S a ++ S b = S (a ++ b) := TL.ext_tl (by rw [TL.tl_append])
theorem vS_inj {a b : List Nat} (h : vS a = vS b) : a = b := by
  unfold vS at h
  injection h with h
  exact S_inj h
theorem dec_S (a b : List Nat) : decide (vS a = vS b) = decide (a = b) := by
  by_cases h : a = b
  · subst h
    rw [decide_eq_true rfl, decide_eq_true rfl]
  · rw [decide_eq_false h, decide_eq_false fun e => h (vS_inj e)]
theorem dec_I (a b : Int) : decide (V.int a = V.int b) = decide (a = b) := by
  by_cases h : a = b
  · subst h
    rw [decide_eq_true rfl, decide_eq_true rfl]
  · rw [decide_eq_false h, decide_eq_false fun e => h (V.int.inj e)]
theorem line_ge : 1000000 ≤ sizeLine := by decide
theorem to_line {n : Nat} (h : n ≤ 1000000) : n ≤ sizeLine := Nat.le_trans h line_ge
theorem to_lineL {n : Nat} (h : n < 1000000) : n < sizeLine := Nat.lt_of_lt_of_le h line_ge

/-! ### other words for a rule -/
section
variable {X : Cx} {id : String}
theorem oprI {f : Value → Value → Sem Value} {r r' : R2} (h : OpR X f r) (k : ∀ x y H Q, r' x y H Q → r x y H Q) : OpR X f r' := fun pins s σ H x y v u Q I rx ry q => h pins s σ H x y v u Q I rx ry (k x y H Q q)
theorem callI {f : Value} {r r' : List V → Hp → VK → Prop} (h : CallR X f r) (k : ∀ xs H Q, r' xs H Q → r xs H Q) : CallR X f r' := fun pins s σ H xs us Q I rs q => h pins s σ H xs us Q I rs (k xs H Q q)
theorem mtrI {r r' : V → List V → Hp → VK → Prop} (h : MtR X id r) (k : ∀ x xs H Q, r' x xs H Q → r x xs H Q) : MtR X id r' := fun pins s σ H x xs v us Q I rx rs q => h pins s σ H x xs v us Q I rx rs (k x xs H Q q)
theorem ixrI {r r' : R2} (h : IxR X r) (k : ∀ x y H Q, r' x y H Q → r x y H Q) : IxR X r' := fun value slice pins s σ H x y v u Q I rx ry q z => h value slice pins s σ H x y v u Q I rx ry (k x y H Q q) z
theorem slrI {r r' : V → Option Int → Option Int → Hp → VK → Prop} (h : SlR X r) (k : ∀ x a b H Q, r' x a b H Q → r x a b H Q) : SlR X r' := fun pins s σ H x v vl vu lo hi sl Q I rx hs pl pu q => h pins s σ H x v vl vu lo hi sl Q I rx hs pl pu (k x lo hi H Q q)
end

/-! ### reading, step by step -/
section
variable {σ : L2.St} {H : Hp} {Q : VK} {x y v : V} {ta tb te : TE}
theorem i_var {i : Nat} (h : σ[i]? = some (some v)) (q : Q v H) : tVar i σ H Q := ⟨v, h, q⟩
theorem i_c (q : Q v H) : tC v σ H Q := q
theorem i_op {r : R2} (h : ta σ H fun x H1 => tb σ H1 fun y H2 => r x y H2 Q) : tOp r ta tb σ H Q := h
theorem i_un {r : V → Hp → VK → Prop} (h : ta σ H fun x H1 => r x H1 Q) : tUn r ta σ H Q := h
theorem i_I0 {g : Int → Int → V} {i j : Int} (q : Q (g i j) H) : rI0 g (.int i) (.int j) H Q := ⟨i, j, rfl, rfl, q⟩
theorem i_I {C : Int → Int → Prop} {g : Int → Int → V} {i j : Int} (c : C i j) (q : Q (g i j) H) : rI C g (.int i) (.int j) H Q := ⟨i, j, rfl, rfl, c, q⟩
theorem i_test {t : TE} {Q : Bool → Hp → Prop} (h : t σ H fun x H' => ∃ k, x = .bl k ∧ Q k H') : tTest t σ H Q := h
theorem i_tB {t : TE} {Q : Bool → Hp → Prop} (h : t σ H fun x H' => ∃ k, x = .bl k ∧ Q k H') : tB t σ H Q := h
theorem i_bl {P : Bool → Prop} {b : Bool} (q : P b) : ∃ k, V.bl b = V.bl k ∧ P k := ⟨b, rfl, q⟩
theorem i_int {P : Int → Prop} {b : Int} (q : P b) : ∃ k, V.int b = V.int k ∧ P k := ⟨b, rfl, q⟩
theorem i_cb {r : List V → Hp → VK → Prop} {t : TA} (h : t σ H fun vs H1 => r vs H1 Q) : tCB r t σ H Q := h
theorem i_call {sp : Sp} {E : L2.St → XK} {t : TA} (h : t σ H fun vs H1 => sp vs H1 Q (E σ)) : tCallS sp E t σ H Q := h
theorem i_nil {Q : List V → Hp → Prop} (q : Q [] H) : tNil σ H Q := q
theorem i_cons {ta : TE} {tr : TA} {Q : List V → Hp → Prop} (h : ta σ H fun x H1 => tr σ H1 fun xs H2 => Q (x :: xs) H2) : tCons ta tr σ H Q := h
theorem i_and {t u : TT} {Q : Bool → Hp → Prop} (h : t σ H fun c H1 => if c = true then u σ H1 Q else Q false H1) : tAnd t u σ H Q := h
theorem i_or {t u : TT} {Q : Bool → Hp → Prop} (h : t σ H fun c H1 => if c = true then Q true H1 else u σ H1 Q) : tOr t u σ H Q := h
theorem i_not {t : TT} {Q : Bool → Hp → Prop} (h : t σ H fun c H1 => Q (!c) H1) : tNot t σ H Q := h
theorem i_andV {ta tb : TE} (h : ta σ H fun x H1 => ∃ c, x = .bl c ∧ if c = true then tb σ H1 Q else Q (.bl false) H1) : tAndV ta tb σ H Q := h
theorem i_orV {ta tb : TE} (h : ta σ H fun x H1 => ∃ c, x = .bl c ∧ if c = true then Q (.bl true) H1 else tb σ H1 Q) : tOrV ta tb σ H Q := h
theorem i_notV {ta : TE} (h : ta σ H fun x H1 => ∃ c, x = .bl c ∧ Q (.bl (!c)) H1) : tNotV ta σ H Q := h
theorem i_ifE {t : TT} {ta tb : TE} (h : t σ H fun c H1 => if c = true then ta σ H1 Q else tb σ H1 Q) : tIf t ta tb σ H Q := h
theorem i_none (q : ∀ Q' : Option Int → Hp → Prop, Q' none H → Q' none H) : True := trivial
theorem i_nopart {Q : Option Int → Hp → Prop} (q : Q none H) : tNoPart σ H Q := q
theorem i_part {te : TE} {Q : Option Int → Hp → Prop} (h : te σ H fun x H1 => ∃ i, x = .int i ∧ Q (some i) H1) : tPart te σ H Q := h
theorem i_sl {r : V → Option Int → Option Int → Hp → VK → Prop} {te : TE} {tl th : TO} (h : te σ H fun x H1 => tl σ H1 fun l H2 => th σ H2 fun u H3 => r x l u H3 Q) : tSl r te tl th σ H Q := h
theorem i_bm {K : PySem.W.Frag} {T : String} {r : V → List V → Hp → VK → Prop} {to : TE} {t : TA} (h : to σ H fun x H1 => tyV K T x H1 ∧ t σ H1 fun xs H2 => r x xs H2 Q) : tBM K T r to t σ H Q := h
theorem i_m1 {r : V → List V → Hp → VK → Prop} {to te : TE} (h : to σ H fun x H1 => (∃ a, x = .str a) ∧ te σ H1 fun y H2 => r x [y] H2 Q) : tM1 r to te σ H Q := h
theorem i_strof {A : Prop} {l : List Nat} (h : A) : (∃ a, vS l = V.str a) ∧ A := ⟨⟨_, rfl⟩, h⟩
theorem i_tyS {A : Prop} {K : PySem.W.Frag} {l : List Nat} (h : A) : tyV K "str" (vS l) H ∧ A := ⟨rfl, h⟩
/-! statements -/
variable {D : Ends}
theorem i_seq {t u : TS} (h : t { D with nx := u D } σ H) : tSeq t u D σ H := h
theorem i_next (h : D.nx σ H) : tNext D σ H := h
theorem i_asg {te : TE} {g : TG} (h : te σ H fun x H1 => g x σ H1 D.nx) : tAsg te g D σ H := h
theorem i_name {i : Nat} {Q : L2.St → Hp → Prop} {v : V} (h : Q (σ.set i (some v)) H) : gName i v σ H Q := h
theorem i_ret {te : TE} (h : te σ H D.rt) : tRet te D σ H := h
theorem i_drop {te : TE} (h : te σ H fun _ H1 => D.nx σ H1) : tDrop te D σ H := h
theorem i_if {c : TT} {t u : TS} (h : c σ H fun b H1 => if b = true then t D σ H1 else u D σ H1) : tIfS c t u D σ H := h
theorem i_for {wi : TI} {g : TG} {tb : TS} (h : wi σ H fun J H1 => ∃ W : Nat → Nat → L2.St → Hp → Prop, (∃ m, W 0 m σ H1) ∧ ∀ i m σ H, W i m σ H →
    (J.stop i H ∧ D.nx σ H) ∨ (J.go i H ∧ ∃ N : L2.St → Hp → Prop, (∀ σ' H', N σ' H' → ∃ m', m' < m ∧ W (i + 1) m' σ' H') ∧ ∀ x H', J.yld i H x H' → g x σ H' fun σ2 H2 => tb { D with nx := N, ct := N, bk := D.nx } σ2 H2)) : tFor wi g tb D σ H := h
theorem i_rng1 {ta : TA} {R : It → Hp → Prop} (h : ta σ H fun vs H1 => ∃ j : Int, vs = [.int j] ∧ -(2 ^ 62) ≤ j ∧ j < 2 ^ 62 ∧ R (Itr 0 j.toNat) H1) : iRng1 ta σ H R := h
theorem i_rng {P : Int → Prop} {j : Int} (h0 : -(2 ^ 62) ≤ j ∧ j < 2 ^ 62) (h : P j) : ∃ j' : Int, [V.int j] = [.int j'] ∧ -(2 ^ 62) ≤ j' ∧ j' < 2 ^ 62 ∧ P j' := ⟨j, rfl, h0.1, h0.2, h⟩
theorem i_list {K : PySem.W.Frag} {tl : TE} {R : It → Hp → Prop} (h : tl σ H fun x H1 => ∃ a, x = .ref a ∧ (∃ xs, SqL K H1 a xs) ∧ R (Itl K a) H1) : iList K tl σ H R := h
theorem i_tup {t : TA} (h : t σ H fun xs H1 => xs.length ≤ sizeLine ∧ ∀ p, H1 p = none → Q (.ref p) (upd H1 p (.tup xs))) : tTup t σ H Q := h
theorem i_lst {t : TA} (h : t σ H fun xs H1 => xs.length ≤ sizeLine ∧ ∀ p, H1 p = none → Q (.ref p) (upd H1 p (.lst xs))) : tLst t σ H Q := h
end
/-- an if whose test is a decision -/
theorem i_ifD {c A B : Prop} [Decidable c] (h1 : c → A) (h2 : ¬ c → B) : if decide c = true then A else B := by
  by_cases h : c
  · rw [decide_eq_true h, if_pos rfl]
    exact h1 h
  · rw [decide_eq_false h, if_neg Bool.false_ne_true]
    exact h2 h
theorem i_ifN {c A B : Prop} [Decidable c] (h1 : ¬ c → A) (h2 : c → B) : if (!decide c) = true then A else B := by
  by_cases h : c
  · rw [decide_eq_true h]
    exact h2 h
  · rw [decide_eq_false h]
    exact h1 h
theorem i_ifB {b : Bool} {A B : Prop} (h1 : b = true → A) (h2 : b = false → B) : if b = true then A else B := by
  cases b with
  | true => exact h1 rfl
  | false => exact h2 rfl

/-! ### texts: rules -/
section
variable {X : Cx}
theorem pe_lit {x : Str} {j : Nat} {pos : Pos} (l : List Nat) (h : x = S l) : PE X (.Constant (.str x) j pos) (tC (vS l)) := by
  subst h
  exact pe_str
def qAddS : R2 := fun x y H Q => ∃ a b : List Nat, x = vS a ∧ y = vS b ∧ a.length + b.length ≤ 1000000 ∧ Q (vS (a ++ b)) H
theorem i_addS {a b : List Nat} {H : Hp} {Q : VK} (h : a.length + b.length ≤ 1000000) (q : Q (vS (a ++ b)) H) : qAddS (vS a) (vS b) H Q := ⟨a, b, rfl, rfl, h, q⟩
theorem op_addS : OpR X (binaryOp .Add) qAddS := oprI op_add_str (by
  rintro x y H Q ⟨a, b, rfl, rfl, h, q⟩
  refine ⟨S a, S b, rfl, rfl, ?_, ?_⟩
  · rw [S_len, S_len]
    exact to_line h
  · rw [S_app]
    exact q)
def qEqS : R2 := fun x y H Q => ∃ a b : List Nat, x = vS a ∧ y = vS b ∧ Q (.bl (decide (a = b))) H
theorem i_eqS {a b : List Nat} {H : Hp} {Q : VK} (q : Q (.bl (decide (a = b))) H) : qEqS (vS a) (vS b) H Q := ⟨a, b, rfl, rfl, q⟩
theorem op_eqS : OpR X (compareOp .Eq) qEqS := oprI op_eq (by
  rintro x y H Q ⟨a, b, rfl, rfl, q⟩
  exact ⟨rfl, by rw [dec_S]; exact q⟩)
def qNeS : R2 := fun x y H Q => ∃ a b : List Nat, x = vS a ∧ y = vS b ∧ Q (.bl (!decide (a = b))) H
theorem i_neS {a b : List Nat} {H : Hp} {Q : VK} (q : Q (.bl (!decide (a = b))) H) : qNeS (vS a) (vS b) H Q := ⟨a, b, rfl, rfl, q⟩
theorem op_neS : OpR X (compareOp .NotEq) qNeS := oprI op_ne (by
  rintro x y H Q ⟨a, b, rfl, rfl, q⟩
  exact ⟨rfl, by rw [dec_S]; exact q⟩)
def qEqI : R2 := fun x y H Q => ∃ a b : Int, x = .int a ∧ y = .int b ∧ Q (.bl (decide (a = b))) H
theorem i_eqI {a b : Int} {H : Hp} {Q : VK} (q : Q (.bl (decide (a = b))) H) : qEqI (.int a) (.int b) H Q := ⟨a, b, rfl, rfl, q⟩
theorem op_eqI : OpR X (compareOp .Eq) qEqI := oprI op_eq (by
  rintro x y H Q ⟨a, b, rfl, rfl, q⟩
  exact ⟨rfl, by rw [dec_I]; exact q⟩)
def qNeI : R2 := fun x y H Q => ∃ a b : Int, x = .int a ∧ y = .int b ∧ Q (.bl (!decide (a = b))) H
theorem i_neI {a b : Int} {H : Hp} {Q : VK} (q : Q (.bl (!decide (a = b))) H) : qNeI (.int a) (.int b) H Q := ⟨a, b, rfl, rfl, q⟩
theorem op_neI : OpR X (compareOp .NotEq) qNeI := oprI op_ne (by
  rintro x y H Q ⟨a, b, rfl, rfl, q⟩
  exact ⟨rfl, by rw [dec_I]; exact q⟩)
/-- x is None, x any value -/
def qIsN : R2 := fun x y H Q => y = .non ∧ Q (.bl (decide (x = .non))) H
theorem i_isN {x : V} {H : Hp} {Q : VK} (q : Q (.bl (decide (x = .non))) H) : qIsN x .non H Q := ⟨rfl, q⟩
theorem op_isN' : OpR X (compareOp .Is) qIsN := op_isN
/-- products with one side bounded -/
def qMulL : R2 := fun x y H Q => ∃ i j : Int, x = .int i ∧ y = .int j ∧ (-(2 ^ 62) ≤ i ∧ i ≤ 2 ^ 62) ∧ Q (.int (i * j)) H
theorem i_mulL {i j : Int} {H : Hp} {Q : VK} (h : -(2 ^ 62) ≤ i ∧ i ≤ 2 ^ 62) (q : Q (.int (i * j)) H) : qMulL (.int i) (.int j) H Q := ⟨i, j, rfl, rfl, h, q⟩
theorem op_mulL' : OpR X (binaryOp .Mult) qMulL := oprI op_mul (by
  rintro x y H Q ⟨i, j, rfl, rfl, h, q⟩
  exact ⟨i, j, rfl, rfl, .inl (by omega), q⟩)
def qMulR : R2 := fun x y H Q => ∃ i j : Int, x = .int i ∧ y = .int j ∧ (-(2 ^ 62) ≤ j ∧ j ≤ 2 ^ 62) ∧ Q (.int (i * j)) H
theorem i_mulR {i j : Int} {H : Hp} {Q : VK} (h : -(2 ^ 62) ≤ j ∧ j ≤ 2 ^ 62) (q : Q (.int (i * j)) H) : qMulR (.int i) (.int j) H Q := ⟨i, j, rfl, rfl, h, q⟩
theorem op_mulR' : OpR X (binaryOp .Mult) qMulR := oprI op_mul (by
  rintro x y H Q ⟨i, j, rfl, rfl, h, q⟩
  exact ⟨i, j, rfl, rfl, .inr (by omega), q⟩)
/-- floor division and rest by a positive number below 2 ^ 30 -/
def qDiv : R2 := fun x y H Q => ∃ i j : Int, x = .int i ∧ y = .int j ∧ (0 < j ∧ j < 1073741824) ∧ Q (.int (i / j)) H
theorem i_div {i j : Int} {H : Hp} {Q : VK} (h : 0 < j ∧ j < 1073741824) (q : Q (.int (i / j)) H) : qDiv (.int i) (.int j) H Q := ⟨i, j, rfl, rfl, h, q⟩
theorem op_div' : OpR X (binaryOp .FloorDiv) qDiv := oprI op_fdiv (by
  rintro x y H Q ⟨i, j, rfl, rfl, h, q⟩
  exact ⟨i, j, rfl, rfl, h, q⟩)
def qMod : R2 := fun x y H Q => ∃ i j : Int, x = .int i ∧ y = .int j ∧ 0 < j ∧ Q (.int (i % j)) H
theorem i_mod {i j : Int} {H : Hp} {Q : VK} (h : 0 < j) (q : Q (.int (i % j)) H) : qMod (.int i) (.int j) H Q := ⟨i, j, rfl, rfl, h, q⟩
theorem op_mod' : OpR X (binaryOp .Mod) qMod := oprI op_mod (by
  rintro x y H Q ⟨i, j, rfl, rfl, h, q⟩
  exact ⟨i, j, rfl, rfl, h, q⟩)
/-- s[i], 0 ≤ i -/
def qIxS : R2 := fun x y H Q => ∃ (l : List Nat) (i : Nat) (c : Nat), x = vS l ∧ y = .int (i : Int) ∧ l.length ≤ 1000000 ∧ l[i]? = some c ∧ Q (vS [c]) H
theorem i_ixS {l : List Nat} {z : Int} {i c : Nat} {H : Hp} {Q : VK} (e : z = (i : Int)) (hl : l.length ≤ 1000000) (h : l[i]? = some c) (q : Q (vS [c]) H) : qIxS (vS l) (.int z) H Q := ⟨l, i, c, rfl, by rw [e], hl, h, q⟩
theorem ix_S : IxR X qIxS := ixrI ix_str (by
  rintro x y H Q ⟨l, i, c, rfl, rfl, hl, h, q⟩
  exact ⟨S l, i, c, rfl, rfl, by rw [S_len]; exact to_line hl, atI_nat h, q⟩)
/-- xs[i], t[i], 0 ≤ i -/
def qIxL (K : PySem.W.Frag) : R2 := fun x y H Q => ∃ (p : Addr) (xs : List V) (i : Nat) (v : V), x = .ref p ∧ y = .int (i : Int) ∧ SqL K H p xs ∧ xs[i]? = some v ∧ Q v H
theorem i_ixL {K : PySem.W.Frag} {p : Addr} {xs : List V} {z : Int} {i : Nat} {v : V} {H : Hp} {Q : VK} (e : z = (i : Int)) (hl : SqL K H p xs) (h : xs[i]? = some v) (q : Q v H) : qIxL K (.ref p) (.int z) H Q := ⟨p, xs, i, v, rfl, by rw [e], hl, h, q⟩
theorem ix_L : IxR X (qIxL X.K) := ixrI ix_list (by
  rintro x y H Q ⟨p, xs, i, v, rfl, rfl, hl, h, q⟩
  exact ⟨p, xs, i, v, rfl, rfl, hl, atI_nat h, q⟩)
def qIxT (K : PySem.W.Frag) : R2 := fun x y H Q => ∃ (p : Addr) (xs : List V) (i : Nat) (v : V), x = .ref p ∧ y = .int (i : Int) ∧ SqT K H p xs ∧ xs[i]? = some v ∧ Q v H
theorem i_ixT {K : PySem.W.Frag} {p : Addr} {xs : List V} {z : Int} {i : Nat} {v : V} {H : Hp} {Q : VK} (e : z = (i : Int)) (hl : SqT K H p xs) (h : xs[i]? = some v) (q : Q v H) : qIxT K (.ref p) (.int z) H Q := ⟨p, xs, i, v, rfl, by rw [e], hl, h, q⟩
theorem ix_T : IxR X (qIxT X.K) := ixrI ix_tup (by
  rintro x y H Q ⟨p, xs, i, v, rfl, rfl, hl, h, q⟩
  exact ⟨p, xs, i, v, rfl, rfl, hl, atI_nat h, q⟩)
/-- slices with bounds that are not negative -/
def cutN {α : Type} (l : List α) (lo hi : Option Int) : List α := (l.drop (HT.sIx l.length 0 lo)).take (HT.sIx l.length l.length hi - HT.sIx l.length 0 lo)
theorem cutN_from {α : Type} (l : List α) (k : Nat) : cutN l (some (k : Int)) none = l.drop k := by
  unfold cutN
  rw [HT.sIx_none, HT.sIx_nat]
  by_cases h : k ≤ l.length
  · rw [Nat.min_eq_left h, List.take_of_length_le]
    rw [List.length_drop]
    exact Nat.le_refl _
  · have h' : l.length ≤ k := by omega
    rw [Nat.min_eq_right h', List.drop_of_length_le (Nat.le_refl _), List.drop_of_length_le h', List.take_nil]
theorem cutN_to {α : Type} (l : List α) (k : Nat) : cutN l none (some (k : Int)) = l.take k := by
  unfold cutN
  rw [HT.sIx_none, HT.sIx_nat, List.drop_zero, Nat.sub_zero]
  by_cases h : k ≤ l.length
  · rw [Nat.min_eq_left h]
  · have h' : l.length ≤ k := by omega
    rw [Nat.min_eq_right h', List.take_of_length_le (Nat.le_refl _), List.take_of_length_le h']
theorem cutN_both {α : Type} (l : List α) (k n : Nat) : cutN l (some (k : Int)) (some ((k + n : Nat) : Int)) = (l.drop k).take n := by
  unfold cutN
  rw [HT.sIx_nat, HT.sIx_nat]
  by_cases h : k ≤ l.length
  · rw [Nat.min_eq_left h]
    by_cases h2 : k + n ≤ l.length
    · rw [Nat.min_eq_left h2, Nat.add_sub_cancel_left]
    · have h3 : l.length ≤ k + n := by omega
      rw [Nat.min_eq_right h3, List.take_of_length_le (by rw [List.length_drop]; exact Nat.le_refl _), List.take_of_length_le]
      rw [List.length_drop]
      omega
  · have h' : l.length ≤ k := by omega
    rw [Nat.min_eq_right h', List.drop_of_length_le (Nat.le_refl _), List.drop_of_length_le h', List.take_nil, List.take_nil]
theorem cutN_last {α : Type} (l : List α) : cutN l none (some (-1)) = l.dropLast := by
  unfold cutN
  rw [HT.sIx_none, List.drop_zero, Nat.sub_zero, List.dropLast_eq_take]
  show List.take (if (-1 : Int) < 0 then ((-1 : Int) + (l.length : Int)).toNat else min (-1 : Int).toNat l.length) l = _
  rw [if_pos (by decide)]
  congr 1
  omega
def qSlS : V → Option Int → Option Int → Hp → VK → Prop := fun x lo hi H Q => ∃ l : List Nat, x = vS l ∧ l.length ≤ 1000000 ∧ Q (vS (cutN l lo hi)) H
theorem i_slS {l : List Nat} {lo hi : Option Int} {H : Hp} {Q : VK} (hl : l.length ≤ 1000000) (q : Q (vS (cutN l lo hi)) H) : qSlS (vS l) lo hi H Q := ⟨l, rfl, hl, q⟩
theorem sl_S : SlR X qSlS := slrI sl_str (by
  rintro x lo hi H Q ⟨l, rfl, hl, q⟩
  refine ⟨S l, rfl, by rw [S_len]; exact to_line hl, ?_⟩
  have e : cutS (S l) lo hi = S (cutN l lo hi) := by
    unfold cutS cutN
    rw [S_len]
  rw [e]
  exact q)
theorem cutV_N (xs : List V) (lo hi : Option Int) : cutV xs lo hi = cutN xs lo hi := rfl
/-- a sign in a text -/
def qInS : R2 := fun x y H Q => ∃ (c : Nat) (l : List Nat), x = vS [c] ∧ y = vS l ∧ Q (.bl (decide (c ∈ l))) H
theorem i_inS {c : Nat} {l : List Nat} {H : Hp} {Q : VK} (q : Q (.bl (decide (c ∈ l))) H) : qInS (vS [c]) (vS l) H Q := ⟨c, l, rfl, rfl, q⟩
theorem op_inS' : OpR X (compareOp .In) qInS := oprI op_in_sign (by
  rintro x y H Q ⟨c, l, rfl, rfl, q⟩
  exact ⟨c, S l, rfl, rfl, q⟩)
def qNiS : R2 := fun x y H Q => ∃ (c : Nat) (l : List Nat), x = vS [c] ∧ y = vS l ∧ Q (.bl (!decide (c ∈ l))) H
theorem i_niS {c : Nat} {l : List Nat} {H : Hp} {Q : VK} (q : Q (.bl (!decide (c ∈ l))) H) : qNiS (vS [c]) (vS l) H Q := ⟨c, l, rfl, rfl, q⟩
theorem op_niS' : OpR X (compareOp .NotIn) qNiS := oprI op_notIn_sign (by
  rintro x y H Q ⟨c, l, rfl, rfl, q⟩
  exact ⟨c, S l, rfl, rfl, q⟩)
/-- len of a text -/
def qLenS : List V → Hp → VK → Prop := fun xs H Q => ∃ l : List Nat, xs = [vS l] ∧ l.length ≤ 1000000 ∧ Q (.int (l.length : Int)) H
theorem i_lenS {l : List Nat} {H : Hp} {Q : VK} (h : l.length ≤ 1000000) (q : Q (.int (l.length : Int)) H) : qLenS [vS l] H Q := ⟨l, rfl, h, q⟩
theorem call_lenS : CallR X (.builtin "len") qLenS := callI call_len_str (by
  rintro xs H Q ⟨l, rfl, h, q⟩
  exact ⟨S l, rfl, by rw [S_len]; exact to_line h, by rw [S_len]; exact q⟩)
/-- len of a list -/
def qLenL (K : PySem.W.Frag) : List V → Hp → VK → Prop := fun xs H Q => ∃ (p : Addr) (ys : List V), xs = [.ref p] ∧ SqL K H p ys ∧ Q (.int (ys.length : Int)) H
theorem i_lenL {K : PySem.W.Frag} {p : Addr} {ys : List V} {H : Hp} {Q : VK} (h : SqL K H p ys) (q : Q (.int (ys.length : Int)) H) : qLenL K [.ref p] H Q := ⟨p, ys, rfl, h, q⟩
theorem call_lenL : CallR X (.builtin "len") (qLenL X.K) := callI call_len_seq (by
  rintro xs H Q ⟨p, ys, rfl, h, q⟩
  exact ⟨p, ys, rfl, .inl h, q⟩)
/-- text.index(sign) -/
theorem occ_signs : ∀ c ∈ signs, Builtin.Str.occurrences (S signs) (S [c]) 0 94 1 = [numOf c] := by decide +kernel
def figs : List Nat := [48, 49, 50, 51, 52, 53, 54, 55, 56, 57]
theorem occ_figs : ∀ c ∈ figs, Builtin.Str.occurrences (S figs) (S [c]) 0 10 1 = [c - 48] := by decide +kernel
theorem mem_figs {c : Nat} : c ∈ figs ↔ fig c = true := by
  unfold figs fig
  simp only [List.mem_cons, List.not_mem_nil, or_false, decide_eq_true_eq]
  omega
def qIxSigns : V → List V → Hp → VK → Prop := fun x xs H Q => ∃ c : Nat, x = vS signs ∧ xs = [vS [c]] ∧ Sign c ∧ Q (.int (numOf c : Int)) H
theorem i_ixSigns {c : Nat} {H : Hp} {Q : VK} (h : Sign c) (q : Q (.int (numOf c : Int)) H) : qIxSigns (vS signs) [vS [c]] H Q := ⟨c, rfl, rfl, h, q⟩
theorem mt_ixSigns : MtR X "str.index" qIxSigns := mtrI mt_sindex (by
  rintro x xs H Q ⟨c, rfl, rfl, h, q⟩
  exact ⟨S signs, S [c], numOf c, [], rfl, rfl, occ_signs c h, q⟩)
def qIxFigs : V → List V → Hp → VK → Prop := fun x xs H Q => ∃ c : Nat, x = vS figs ∧ xs = [vS [c]] ∧ c ∈ figs ∧ Q (.int ((c - 48 : Nat) : Int)) H
theorem i_ixFigs {c : Nat} {H : Hp} {Q : VK} (h : c ∈ figs) (q : Q (.int ((c - 48 : Nat) : Int)) H) : qIxFigs (vS figs) [vS [c]] H Q := ⟨c, rfl, rfl, h, q⟩
theorem mt_ixFigs : MtR X "str.index" qIxFigs := mtrI mt_sindex (by
  rintro x xs H Q ⟨c, rfl, rfl, h, q⟩
  exact ⟨S figs, S [c], c - 48, [], rfl, rfl, occ_figs c h, q⟩)
/-- str(n) of a figure; str(n).zfill(2) -/
def qStrD : List V → Hp → VK → Prop := fun xs H Q => ∃ n : Nat, xs = [.int (n : Int)] ∧ n < 10 ∧ Q (vS [48 + n]) H
theorem i_strD {z : Int} {n : Nat} {H : Hp} {Q : VK} (e : z = (n : Int)) (h : n < 10) (q : Q (vS [48 + n]) H) : qStrD [.int z] H Q := ⟨n, by rw [e], h, q⟩
theorem num_str : ∀ n < 10, (Str.ofString (toString ((n : Nat) : Int))) = S [48 + n] := by decide +kernel
theorem call_strD : CallR X (.type "str") qStrD := callI call_str_int (by
  rintro xs H Q ⟨n, rfl, h, q⟩
  refine ⟨n, rfl, ?_, ?_⟩
  · have : ∀ n < 10, ((n : Nat) : Int).natAbs.log2 < 1920 := by decide
    exact this n h
  · rw [num_str n h]
    exact q)
/-- str(n), n below 94 -/
def numS (n : Nat) : List Nat := if n < 10 then [48 + n] else [48 + n / 10, 48 + n % 10]
theorem numS_str : ∀ n < 94, (Str.ofString (toString ((n : Nat) : Int))) = S (numS n) := by decide +kernel
def qStrN : List V → Hp → VK → Prop := fun xs H Q => ∃ n : Nat, xs = [.int (n : Int)] ∧ n < 94 ∧ Q (vS (numS n)) H
theorem i_strN {z : Int} {n : Nat} {H : Hp} {Q : VK} (e : z = (n : Int)) (h : n < 94) (q : Q (vS (numS n)) H) : qStrN [.int z] H Q := ⟨n, by rw [e], h, q⟩
theorem call_strN : CallR X (.type "str") qStrN := callI call_str_int (by
  rintro xs H Q ⟨n, rfl, h, q⟩
  refine ⟨n, rfl, ?_, ?_⟩
  · have : ∀ n < 94, ((n : Nat) : Int).natAbs.log2 < 1920 := by decide
    exact this n h
  · rw [numS_str n h]
    exact q)
theorem zfill_num : ∀ n < 94, Txt.zfill (S (numS n)) 2 = S [48 + n / 10, 48 + n % 10] := by decide +kernel
def qZf2 : V → List V → Hp → VK → Prop := fun x xs H Q => ∃ n : Nat, x = vS (numS n) ∧ xs = [.int 2] ∧ n < 94 ∧ Q (vS [48 + n / 10, 48 + n % 10]) H
theorem i_zf2 {n : Nat} {H : Hp} {Q : VK} (h : n < 94) (q : Q (vS [48 + n / 10, 48 + n % 10]) H) : qZf2 (vS (numS n)) [.int 2] H Q := ⟨n, rfl, rfl, h, q⟩
theorem mt_zf2 : MtR X "str.zfill" qZf2 := mtrI mt_zfill (by
  rintro x xs H Q ⟨n, rfl, rfl, h, q⟩
  refine ⟨S (numS n), 2, rfl, rfl, by decide +kernel, ?_⟩
  rw [zfill_num n h]
  exact q)
/-- int(two figures) -/
theorem int_two : ∀ a < 10, ∀ b < 10, intText? (S [48 + a, 48 + b]) = some ((10 * a + b : Nat) : Int) := by decide +kernel
def qInt2 : List V → Hp → VK → Prop := fun xs H Q => ∃ a b : Nat, xs = [vS [a, b]] ∧ a ∈ figs ∧ b ∈ figs ∧ Q (.int ((10 * (a - 48) + (b - 48) : Nat) : Int)) H
theorem i_int2 {a b : Nat} {H : Hp} {Q : VK} (ha : a ∈ figs) (hb : b ∈ figs) (q : Q (.int ((10 * (a - 48) + (b - 48) : Nat) : Int)) H) : qInt2 [vS [a, b]] H Q := ⟨a, b, rfl, ha, hb, q⟩
theorem call_int2 : CallR X (.type "int") qInt2 := callI call_int_str (by
  rintro xs H Q ⟨a, b, rfl, ha, hb, q⟩
  have h1 := mem_figs.mp ha
  have h2 := mem_figs.mp hb
  unfold fig at h1 h2
  have h1 := of_decide_eq_true h1
  have h2 := of_decide_eq_true h2
  refine ⟨S [a, b], _, rfl, ?_, by rw [S_len]; show 2 ≤ 640; decide, q⟩
  have e := int_two (a - 48) (by omega) (b - 48) (by omega)
  rw [show 48 + (a - 48) = a by omega, show 48 + (b - 48) = b by omega] at e
  exact e)
/-- int(flag) -/
def qIntB : List V → Hp → VK → Prop := fun xs H Q => ∃ k : Bool, xs = [.bl k] ∧ Q (.int (if k then 1 else 0)) H
theorem i_intB {k : Bool} {H : Hp} {Q : VK} (q : Q (.int (if k then 1 else 0)) H) : qIntB [.bl k] H Q := ⟨k, rfl, q⟩
theorem call_intB : CallR X (.type "int") qIntB := callI call_int1 (by
  rintro xs H Q ⟨k, rfl, q⟩
  exact .inr ⟨k, rfl, q⟩)
/-- text * n -/
def repL (n : Nat) (l : List Nat) : List Nat := (List.replicate n l).flatten
def qMulS : R2 := fun x y H Q => ∃ (l : List Nat) (n : Nat), x = vS l ∧ y = .int (n : Int) ∧ l.length * n ≤ 1000000 ∧ n ≤ 1000000 ∧ Q (vS (repL n l)) H
theorem i_mulS {l : List Nat} {z : Int} {n : Nat} {H : Hp} {Q : VK} (e : z = (n : Int)) (h1 : l.length * n ≤ 1000000) (h2 : n ≤ 1000000) (q : Q (vS (repL n l)) H) : qMulS (vS l) (.int z) H Q := ⟨l, n, rfl, by rw [e], h1, h2, q⟩
theorem foldl_rep (l : List Nat) : ∀ (n : Nat) (acc : Array Nat), ((List.replicate n l.toArray).foldl (· ++ ·) acc).toList = acc.toList ++ repL n l
  | 0, acc => by simp [repL]
  | n + 1, acc => by
    rw [List.replicate_succ, List.foldl_cons, foldl_rep l n]
    simp [repL, List.replicate_succ]
end
end Pw

/-! Calls of defs, of text methods; more rules. -/
namespace Pw
open PySem PySem.Spec PyProof.Rows L2
/-- the addresses of the program's classes -/
structure Ad where
  P : Addr
  B : Addr
  N : Addr
  R : Addr
  Sh : Addr
/-- the def that the module's name x stands for keeps the promise sp -/
structure Fn (P : Program) (w : World) (K : PySem.W.Frag) (mg : Str → Option Value) (base : Heap) (CX : CXT) (k : Nat) (x : Str) (sp : Sp) : Prop where
  ex : ∃ f fd ps, FnOk P w K mg base CX k f fd ps sp ∧ mg x = some (.ref f) ∧ PySem.W.keepIn K (.ref f) = true ∧ Binds K fd ps []
section
variable {X : Cx} {k j : Nat} {x : Str} {sp : Sp} {W : WX} {p pos : Pos} {e : Expr} {es : List Expr} {t : TA}
/-- a call of a def that no exception leaves -/
theorem pe_fn0 (c : Fn X.prog X.w X.K X.mg X.base CX0 k x sp) (hr : Room j X.A) (hk : k ≤ j) (hg : Gl X x) (ha : PA X (e :: es) t) (hdb : (x == ("__debug__" : Str)) = false := by decide) (he : starEach (e :: es) X.env = (false, eval e X.env) :: starEach es X.env := by rfl)
    (hpl : (backTo pos (starEach es X.env)).any (·.1) = false := by rfl) : PE X (.Call (.Name x p) (e :: es) [] pos) (tCallS sp (fun _ => E0) t) := by
  obtain ⟨f, fd, ps, F, hm, kp, hb⟩ := c.ex
  exact pe_callS F (hr.mono hk) hg hm kp hb (fun _ _ _ _ _ _ _ h => h.elim) ha hdb he hpl
/-- a call of a def that may raise -/
theorem pe_fnX (c : Fn X.prog X.w X.K X.mg X.base (L2.CX X.prog X.w) k x sp) (hr : Room j X.A) (hk : k ≤ j) (tk : Takes X W) (hg : Gl X x) (ha : PA X (e :: es) t) (hdb : (x == ("__debug__" : Str)) = false := by decide)
    (he : starEach (e :: es) X.env = (false, eval e X.env) :: starEach es X.env := by rfl) (hpl : (backTo pos (starEach es X.env)).any (·.1) = false := by rfl) : PE X (.Call (.Name x p) (e :: es) [] pos) (tCallS sp (WE W) t) := by
  obtain ⟨f, fd, ps, F, hm, kp, hb⟩ := c.ex
  exact pe_callS F (hr.mono hk) hg hm kp hb (fun σ => passAt tk σ) ha hdb he hpl
/-- .. where it raises nothing -/
theorem pe_fnN (c : Fn X.prog X.w X.K X.mg X.base (L2.CX X.prog X.w) k x sp) (hr : Room j X.A) (hk : k ≤ j) (hg : Gl X x) (ha : PA X (e :: es) t) (hdb : (x == ("__debug__" : Str)) = false := by decide)
    (he : starEach (e :: es) X.env = (false, eval e X.env) :: starEach es X.env := by rfl) (hpl : (backTo pos (starEach es X.env)).any (·.1) = false := by rfl) : PE X (.Call (.Name x p) (e :: es) [] pos) (tCallS sp (fun _ => E0) t) := by
  obtain ⟨f, fd, ps, F, hm, kp, hb⟩ := c.ex
  exact pe_callS F (hr.mono hk) hg hm kp hb (fun σ pins H s e s' I h => passL pins σ H s e s' I h) ha hdb he hpl
/-- a def without parameters -/
theorem pe_fn00 (c : Fn X.prog X.w X.K X.mg X.base CX0 k x sp) (hr : Room j X.A) (hk : k ≤ j) (hg : Gl X x) (hdb : (x == ("__debug__" : Str)) = false := by decide) : PE X (.Call (.Name x p) [] [] pos) (tCallS sp (fun _ => E0) tNil) := by
  obtain ⟨f, fd, ps, F, hm, kp, hb⟩ := c.ex
  have h := pe_call0 (X := X) (x := x) (p := p) (pos := pos) (dvs := []) (E := E0) F (hr.mono hk) hg hm kp hb .nil pass0 hdb
  refine ⟨fun pins s σ H Q I q => ?_⟩
  exact h.run pins s σ H Q I q
/-- a name of the module that stands for v -/
theorem pe_gl {v : V} (h : ∃ u, X.mg x = some u ∧ RelV v u) (hg : Gl X x) (hd : (x == ("__debug__" : Str)) = false := by decide) : PE X (.Name x pos) (tC v) := by
  obtain ⟨u, hm, r⟩ := h
  exact pe_glob hg hm r hd
end
theorem Fn.of {P : Program} {w : World} {K : PySem.W.Frag} {mg : Str → Option Value} {base : Heap} {CX : CXT} {k : Nat} {x qual : Str} {st : Stmt} {f : Addr} {fd : FuncData} {ps : List Str} {sp : Sp} (F : Fun K x qual st f fd) (hm : mg x = some (.ref f)) (hb : Binds K fd ps [])
    (h : FnOk P w K mg base CX k f fd ps sp) : Fn P w K mg base CX k x sp := ⟨f, fd, ps, h, hm, F.kp, hb⟩

/-! ### text * n, split, join, replace -/
section
variable {X : Cx}
theorem rep_zero (l : List Nat) : repL 0 l = [] := rfl
theorem rep_one (l : List Nat) : repL 1 l = l := by simp [repL]
theorem op_mulS : OpR X (binaryOp .Mult) qMulS := by
  rintro pins s σ H x y v u Q I rx ry ⟨l, n, rfl, rfl, h1, h2, q⟩
  obtain ⟨t, rfl⟩ := rx
  obtain ⟨t', rfl⟩ := ry
  refine PySem.P.mul_str ?_ (fun _ _ => ?_) (fun _ _ => ?_) ?_
  · have e1 : ¬ ((n : Int) < -(2 ^ 63 : Int)) := by omega
    have e2 : ¬ ((n : Int) ≥ 2 ^ 63) := by omega
    rw [decide_eq_false e1, decide_eq_false e2]
    rfl
  · rename_i hn hz
    rw [S_len]
    have hn1 : n ≠ 0 := by omega
    have h3 : ((l.length : Int) * (n : Int)) ≤ 1000000 := by
      rw [← Int.natCast_mul]
      omega
    have hle : (l.length : Int) ≤ (2 ^ 63 - 1) / (n : Int) := Int.le_ediv_of_mul_le (by omega) (by omega)
    omega
  · show Builtin.Str.tooLong ((S l).length * (n : Int).toNat) = false
    rw [S_len, Int.toNat_natCast]
    unfold Builtin.Str.tooLong
    have := line_ge
    simp only [decide_eq_false_iff_not]
    omega
  · have fin : ∀ (k : Nat), Q (vS (repL n l)) H → EP X pins σ Q (.str (S (repL n l)) k) s := fun k q => ⟨vS _, H, I, ⟨k, rfl⟩, q⟩
    have fin2 : ∀ (k : Nat), Q (vS (repL n l)) H → EP X pins σ Q (.str (S (repL n l)) k) { s with toks := s.toks + 1 } := fun k q => ⟨vS _, H, I.tok _, ⟨k, rfl⟩, q⟩
    split
    · rename_i hn
      have e : n = 0 := by omega
      subst e
      exact ⟨by decide, fin2 _ q⟩
    · split
      · rename_i hn hz
        simp only [Bool.or_eq_true, beq_iff_eq] at hz
        have e : repL n l = l := by
          rcases hz with hz | hz
          · have e : n = 1 := by omega
            rw [e, rep_one]
          · rw [S_len] at hz
            have e : l = [] := List.length_eq_zero_iff.mp hz
            subst e
            simp [repL]
        rw [e] at q
        exact ⟨vS _, H, I, ⟨t, rfl⟩, q⟩
      · have e : (⟨(List.replicate (n : Int).toNat (S l).cps).foldl (· ++ ·) #[]⟩ : Str) = S (repL n l) := by
          rw [Int.toNat_natCast]
          refine TL.ext_tl ?_
          show ((List.replicate n l.toArray).foldl (· ++ ·) #[]).toList = repL n l
          rw [foldl_rep]
          rfl
        rw [e]
        refine ⟨?_, fin2 _ q⟩
        rw [S_len]
        have : (repL n l).length = l.length * n := by
          simp [repL, Nat.mul_comm]
        rw [this]
        exact to_line h1
/-- "/".split -/
theorem spl_splitS : ∀ (l acc : List Nat), TL.spl [47] 0 acc l = (match splitS l with | h :: t => (acc ++ h) :: t | [] => [])
  | [], acc => by
    rw [TL.spl_nil]
    simp [splitS]
  | c :: r, acc => by
    rw [splitS]
    by_cases h : c = 47
    · subst h
      rw [TL.spl_hit (by rfl), if_pos rfl]
      show acc :: TL.spl [47] 0 [] r = (acc ++ []) :: splitS r
      rw [spl_splitS r []]
      have hn := splitS_ne r
      cases e : splitS r with
      | nil => exact absurd e hn
      | cons a t => simp
    · rw [TL.spl_miss (TL.pre_of_head [] r h), if_neg h, spl_splitS r (acc ++ [c])]
      have hn := splitS_ne r
      cases e : splitS r with
      | nil => exact absurd e hn
      | cons a t => simp
theorem split_eq (l : List Nat) : Txt.split (S l) (S [47]) = (splitS l).map S := by
  refine TL.map_tl_inj ?_
  rw [TL.split_spl (S l) (S [47]) (by simp [TL.tl]) (TL.kind_ok (by decide +kernel))]
  show TL.spl [47] 0 [] l = ((splitS l).map S).map TL.tl
  rw [spl_splitS, List.map_map]
  have hn := splitS_ne l
  cases e : splitS l with
  | nil => exact absurd e hn
  | cons a t =>
    show ([] ++ a) :: t = (a :: t).map (TL.tl ∘ S)
    have : TL.tl ∘ S = id := rfl
    rw [this, List.map_id]
    rfl
theorem map_vS (ys : List (List Nat)) : (ys.map S).map V.str = ys.map vS := by
  rw [List.map_map]
  rfl
def qSplit : V → List V → Hp → VK → Prop := fun x xs H Q => ∃ l : List Nat, x = vS l ∧ xs = [vS [47]] ∧ l.length ≤ 1000000 ∧ ∀ p, H p = none → Q (.ref p) (upd H p (.lst ((splitS l).map vS)))
theorem i_split {l : List Nat} {H : Hp} {Q : VK} (h : l.length ≤ 1000000) (q : ∀ p, H p = none → Q (.ref p) (upd H p (.lst ((splitS l).map vS)))) : qSplit (vS l) [vS [47]] H Q := ⟨l, rfl, rfl, h, q⟩
theorem mt_splitS : MtR X "str.split" qSplit := mtrI mt_split (by
  rintro x xs H Q ⟨l, rfl, rfl, h, q⟩
  refine ⟨S l, S [47], rfl, rfl, rfl, ?_, fun p hp => ?_⟩
  · rw [S_len]
    have := line_ge
    have : 1000002 ≤ sizeLine := by decide
    omega
  · rw [split_eq, map_vS]
    exact q p hp)
theorem joinL_joinS : ∀ ps : List (List Nat), TL.joinL [47] ps = joinS ps
  | [] => rfl
  | [x] => rfl
  | x :: y :: r => by
    have ih := joinL_joinS (y :: r)
    show x ++ ([47] ++ TL.joinL [47] (y :: r)) = x ++ 47 :: joinS (y :: r)
    rw [ih]
    rfl
theorem joinL_flat : ∀ ps : List (List Nat), TL.joinL [] ps = ps.flatten
  | [] => rfl
  | [x] => by simp [TL.joinL]
  | x :: y :: r => by
    have ih := joinL_flat (y :: r)
    show x ++ ([] ++ TL.joinL [] (y :: r)) = _
    rw [ih]
    simp
theorem join_S (a : List Nat) (ys : List (List Nat)) : Txt.join (S a) (ys.map S) = S (TL.joinL a ys) := by
  have e := TL.tl_join (S a) (ys.map S)
  have e1 : (ys.map S).map TL.tl = ys := by
    rw [List.map_map]
    exact List.map_id ys
  rw [e1] at e
  exact TL.ext_tl ((congrArg TL.tl (TL.join_eq (S a) (ys.map S))).trans e)
def sumL (ys : List (List Nat)) : Nat := (ys.map List.length).sum
theorem sum_S (ys : List (List Nat)) : ((ys.map S).map (·.length)).sum = sumL ys := by
  unfold sumL
  rw [List.map_map]
  congr 1
def qJoin (K : PySem.W.Frag) : V → List V → Hp → VK → Prop := fun x xs H Q => ∃ (p : Addr) (ys : List (List Nat)), x = vS [47] ∧ xs = [.ref p] ∧ SqL K H p (ys.map vS) ∧ sumL ys + ys.length ≤ 16000000 ∧ Q (vS (joinS ys)) H
theorem i_join {K : PySem.W.Frag} {p : Addr} {ys : List (List Nat)} {H : Hp} {Q : VK} (h : SqL K H p (ys.map vS)) (hl : sumL ys + ys.length ≤ 16000000) (q : Q (vS (joinS ys)) H) : qJoin K (vS [47]) [.ref p] H Q := ⟨p, ys, rfl, rfl, h, hl, q⟩
theorem mt_joinS : MtR X "str.join" (qJoin X.K) := mtrI mt_join (by
  rintro x xs H Q ⟨p, ys, rfl, rfl, h, hl, q⟩
  refine ⟨S [47], p, ys.map S, rfl, rfl, .inl ?_, ?_, ?_⟩
  · rw [map_vS]
    exact h
  · rw [sum_S, List.length_map]
    show _ + ys.length * 1 ≤ _
    omega
  · rw [join_S, joinL_joinS]
    exact q)
def qJoin0 (K : PySem.W.Frag) : V → List V → Hp → VK → Prop := fun x xs H Q => ∃ (p : Addr) (ys : List (List Nat)), x = vS [] ∧ xs = [.ref p] ∧ SqL K H p (ys.map vS) ∧ sumL ys ≤ 16000000 ∧ Q (vS ys.flatten) H
theorem i_join0 {K : PySem.W.Frag} {p : Addr} {ys : List (List Nat)} {H : Hp} {Q : VK} (h : SqL K H p (ys.map vS)) (hl : sumL ys ≤ 16000000) (q : Q (vS ys.flatten) H) : qJoin0 K (vS []) [.ref p] H Q := ⟨p, ys, rfl, rfl, h, hl, q⟩
theorem mt_join0 : MtR X "str.join" (qJoin0 X.K) := mtrI mt_join (by
  rintro x xs H Q ⟨p, ys, rfl, rfl, h, hl, q⟩
  refine ⟨S [], p, ys.map S, rfl, rfl, .inl ?_, ?_, ?_⟩
  · rw [map_vS]
    exact h
  · rw [sum_S, List.length_map]
    show _ + ys.length * 0 ≤ _
    omega
  · rw [join_S, joinL_flat]
    exact q)
end
end Pw

/-! More rules: named operators, classes, exceptions, enumerate of a text. -/
namespace Pw
open PySem PySem.Spec PyProof.Rows L2
section
variable {X : Cx}
def qAdd : R2 := rI0 fun i j => .int (i + j)
def qSub : R2 := rI0 fun i j => .int (i - j)
def qLt : R2 := rI0 fun i j => .bl (decide (i < j))
def qLe : R2 := rI0 fun i j => .bl (decide (i ≤ j))
def qGt : R2 := rI0 fun i j => .bl (decide (j < i))
def qGe : R2 := rI0 fun i j => .bl (decide (j ≤ i))
def qNeg : V → Hp → VK → Prop := rU fun i => .int (-i)
theorem op_add1 : OpR X (binaryOp .Add) qAdd := op_add
theorem op_sub1 : OpR X (binaryOp .Sub) qSub := op_sub
theorem op_lt1 : OpR X (compareOp .Lt) qLt := op_lt
theorem op_le1 : OpR X (compareOp .LtE) qLe := op_le
theorem op_gt1 : OpR X (compareOp .Gt) qGt := op_gt
theorem op_ge1 : OpR X (compareOp .GtE) qGe := op_ge
theorem i_add {i j : Int} {H : Hp} {Q : VK} (q : Q (.int (i + j)) H) : qAdd (.int i) (.int j) H Q := ⟨i, j, rfl, rfl, q⟩
theorem i_sub {i j : Int} {H : Hp} {Q : VK} (q : Q (.int (i - j)) H) : qSub (.int i) (.int j) H Q := ⟨i, j, rfl, rfl, q⟩
theorem i_lt {i j : Int} {H : Hp} {Q : VK} (q : Q (.bl (decide (i < j))) H) : qLt (.int i) (.int j) H Q := ⟨i, j, rfl, rfl, q⟩
theorem i_le {i j : Int} {H : Hp} {Q : VK} (q : Q (.bl (decide (i ≤ j))) H) : qLe (.int i) (.int j) H Q := ⟨i, j, rfl, rfl, q⟩
theorem i_gt {i j : Int} {H : Hp} {Q : VK} (q : Q (.bl (decide (j < i))) H) : qGt (.int i) (.int j) H Q := ⟨i, j, rfl, rfl, q⟩
theorem i_ge {i j : Int} {H : Hp} {Q : VK} (q : Q (.bl (decide (j ≤ i))) H) : qGe (.int i) (.int j) H Q := ⟨i, j, rfl, rfl, q⟩
theorem i_neg {i : Int} {H : Hp} {Q : VK} (q : Q (.int (-i)) H) : qNeg (.int i) H Q := ⟨i, rfl, q⟩
/-- slices of lists, list(..), insert -/
def qSlL (K : PySem.W.Frag) : V → Option Int → Option Int → Hp → VK → Prop := fun x lo hi H Q => ∃ (a : Addr) (xs : List V), x = .ref a ∧ SqL K H a xs ∧ ∀ p, H p = none → Q (.ref p) (upd H p (.lst (cutN xs lo hi)))
theorem i_slL {K : PySem.W.Frag} {a : Addr} {xs : List V} {lo hi : Option Int} {H : Hp} {Q : VK} (h : SqL K H a xs) (q : ∀ p, H p = none → Q (.ref p) (upd H p (.lst (cutN xs lo hi)))) : qSlL K (.ref a) lo hi H Q := ⟨a, xs, rfl, h, q⟩
theorem sl_L : SlR X (qSlL X.K) := sl_list
def qListL (K : PySem.W.Frag) : List V → Hp → VK → Prop := fun vs H Q => ∃ (p : Addr) (ys : List V), vs = [.ref p] ∧ SqL K H p ys ∧ ∀ l, H l = none → Q (.ref l) (upd H l (.lst ys))
theorem i_listL {K : PySem.W.Frag} {p : Addr} {ys : List V} {H : Hp} {Q : VK} (h : SqL K H p ys) (q : ∀ l, H l = none → Q (.ref l) (upd H l (.lst ys))) : qListL K [.ref p] H Q := ⟨p, ys, rfl, h, q⟩
theorem call_listL : CallR X (.type "list") (qListL X.K) := callI call_list_of (by
  rintro vs H Q ⟨p, ys, rfl, h, q⟩
  exact ⟨p, ys, rfl, .inl h, q⟩)
def qInsert : V → List V → Hp → VK → Prop := fun x vs H Q => ∃ (l : Addr) (xs : List V) (i : Nat) (y : V), x = .ref l ∧ vs = [.int (i : Int), y] ∧ H l = some (.lst xs) ∧ xs.length < 1000000 ∧ i ≤ 1000000 ∧ Q .non (upd H l (.lst (xs.take i ++ [y] ++ xs.drop i)))
theorem i_insert {l : Addr} {xs : List V} {z : Int} {i : Nat} {y : V} {H : Hp} {Q : VK} (e : z = (i : Int)) (h : H l = some (.lst xs)) (hl : xs.length < 1000000) (hi : i ≤ 1000000) (q : Q .non (upd H l (.lst (xs.take i ++ [y] ++ xs.drop i)))) : qInsert (.ref l) [.int z, y] H Q := ⟨l, xs, i, y, rfl, by rw [e], h, hl, hi, q⟩
theorem mt_insert1 : MtR X "list.insert" qInsert := mtrI mt_insert (by
  rintro x vs H Q ⟨l, xs, i, y, rfl, rfl, h, hl, hi, q⟩
  exact ⟨l, xs, (i : Int), y, rfl, rfl, h, to_lineL hl, by omega, by omega, by rw [Int.toNat_natCast]; exact q⟩)
def qMax : List V → Hp → VK → Prop := fun xs H Q => ∃ i j : Int, xs = [.int i, .int j] ∧ Q (.int (if j > i then j else i)) H
def qMin : List V → Hp → VK → Prop := fun xs H Q => ∃ i j : Int, xs = [.int i, .int j] ∧ Q (.int (if j < i then j else i)) H
/-- is not None -/
def qNotN : R2 := fun x y H Q => y = .non ∧ Q (.bl (!decide (x = .non))) H
theorem i_notN {x : V} {H : Hp} {Q : VK} (q : Q (.bl (!decide (x = .non))) H) : qNotN x .non H Q := ⟨rfl, q⟩
theorem op_notN' : OpR X (compareOp .IsNot) qNotN := op_notN
/-- == of truth values -/
def qEqB : R2 := fun x y H Q => ∃ a b : Bool, x = .bl a ∧ y = .bl b ∧ Q (.bl (decide (a = b))) H
def qNeB : R2 := fun x y H Q => ∃ a b : Bool, x = .bl a ∧ y = .bl b ∧ Q (.bl (!decide (a = b))) H
theorem dec_B (a b : Bool) : decide (V.bl a = V.bl b) = decide (a = b) := by
  cases a <;> cases b <;> rfl
theorem i_eqB {a b : Bool} {H : Hp} {Q : VK} (q : Q (.bl (decide (a = b))) H) : qEqB (.bl a) (.bl b) H Q := ⟨a, b, rfl, rfl, q⟩
theorem i_neB {a b : Bool} {H : Hp} {Q : VK} (q : Q (.bl (!decide (a = b))) H) : qNeB (.bl a) (.bl b) H Q := ⟨a, b, rfl, rfl, q⟩
theorem op_eqB : OpR X (compareOp .Eq) qEqB := oprI op_eq (by
  rintro x y H Q ⟨a, b, rfl, rfl, q⟩
  exact ⟨rfl, by rw [dec_B]; exact q⟩)
theorem op_neB : OpR X (compareOp .NotEq) qNeB := oprI op_ne (by
  rintro x y H Q ⟨a, b, rfl, rfl, q⟩
  exact ⟨rfl, by rw [dec_B]; exact q⟩)
end

/-! ### classes of exceptions; raise, try -/
structure XC (K : PySem.W.Frag) (mg : Str → Option Value) (x : Str) (C : Addr) : Prop where
  xi : PySem.W.excIn K C [.type "ValueError", .type "Exception", .type "BaseException", .type "object"] "ValueError.__new__" = true
  g : mg x = some (.ref C)
  k : PySem.W.keepIn K (.ref C) = true
  b : PySem.W.subIn K (.ref C) (.type "BaseException") = some true
  t : PySem.W.typeIn K (.ref C) = some (.type "type")
def tRaise (W : WX) (cls : Value) : TS := fun _ σ H => W cls none σ H
def tTry (tb : WX → TS) (wf : Ends → WX) : TS := fun D σ H => tb (wf D) D σ H
theorem names_of {X : Cx} {x : Str} {c : Value} (hg : Gl X x) (hm : X.mg x = some c) (hd : (x == ("__debug__" : Str)) = false := by decide) : Names X x c := ⟨hg, hd, .inl hm⟩
section
variable {X : Cx} {x n : Str} {c : Value} {i : Nat} {body suite : List Stmt} {b₀ : Stmt} {np pos pos' : Pos} {tb : WX → TS} {ts : Addr → Value → Option Addr → TS} {Wout : WX}
theorem ps_tryO (hs : X.stack = X.env :: X.outer) (hf : X.env.frame = some X.env.locals) (hc : Names X x c) (tk : Takes X Wout)
    (hb : ∀ (W : WX) (pn : List (Addr × Obj)) (xe : Value → Shared → Prop), Takes (X.tr pn xe) W → PassesOwn (model X.prog X.w) X.A X.env xe → PSs (X.tr pn xe) body (tb W))
    (hsu : ∀ (a : Addr) (oe : Obj) (cls : Value) (d : Option Addr) (pn : List (Addr × Obj)), Zc cls d oe → (∃ vs, oe.data = .fields vs) → PSs (X.suite a ((a, oe) :: pn)) (b₀ :: suite) (ts a cls d)) :
    PS X (.Try body [.ExceptHandler (some (.Name x np)) none (b₀ :: suite) pos'] [] [] pos) (tTry tb fun D => wOnly X.K c ts Wout D) := ps_try_only hs hf hc tk hb hsu
theorem ps_tryA (hs : X.stack = X.env :: X.outer) (hf : X.env.frame = some X.env.locals) (hN : X.N.Nodup) (hi : X.N[i]? = some n) (hln : X.env.kindOf n = some .local) (hc : Names X x c) (tk : Takes X Wout)
    (hb : ∀ (W : WX) (pn : List (Addr × Obj)) (xe : Value → Shared → Prop), Takes (X.tr pn xe) W → PassesOwn (model X.prog X.w) X.A X.env xe → PSs (X.tr pn xe) body (tb W))
    (hsu : ∀ (a : Addr) (oe : Obj) (cls : Value) (d : Option Addr) (pn : List (Addr × Obj)), Zc cls d oe → (∃ vs, oe.data = .fields vs) → PSs (X.suite a ((a, oe) :: pn)) (b₀ :: suite) (ts a cls d)) :
    PS X (.Try body [.ExceptHandler (some (.Name x np)) (some n) (b₀ :: suite) pos'] [] [] pos) (tTry tb fun D => wAs X.K c i ts Wout D) := ps_try_as hs hf hN hi hln hc tk hb hsu
end
/-- isinstance(e, c) in an except suite, e the caught error -/
def qIsE (K : PySem.W.Frag) (a : Addr) (cls : Value) (d : Option Addr) : List V → Hp → VK → Prop := fun xs H Q => ∃ (D : Addr) (c : V) (cv : Value) (b : Bool), cls = .ref D ∧ d = none ∧ ExcC K D ∧ xs = [.ref a, c] ∧ (∀ u, RelV c u → u = cv) ∧ PySem.W.kitOne K (.ref D) cv = some b ∧ Q (.bl b) H
theorem call_isE1 {X : Cx} {a : Addr} {cls : Value} {d : Option Addr} {oe : Obj} {pn : List (Addr × Obj)} (hz : Zc cls d oe) (hf : ∃ vs, oe.data = .fields vs) : CallR (X.suite a ((a, oe) :: pn)) (.builtin "isinstance") (qIsE X.K a cls d) := by
  rintro pins s σ H xs us Q I r ⟨D, c, cv, b, rfl, rfl, hC, rfl, hcv, e, q⟩
  exact call_isE hC hz hf pins s σ H _ us Q I r ⟨c, cv, b, rfl, hcv, e, q⟩

/-! ### own classes: made, methods called -/
structure MkOk (P : Program) (w : World) (K : PySem.W.Frag) (mg : Str → Option Value) (base : Heap) (CX : CXT) (k : Nat) (C : Addr) (sp : Sp) : Prop where
  ex : ∃ f fd ps, FnOk P w K mg base CX k f fd ps sp ∧ PySem.W.findIn K (.ref C) "__init__" = some (some (.ref f)) ∧ PySem.W.isFn K (.ref f) = true ∧ Binds K fd ps []
structure MtOk (P : Program) (w : World) (K : PySem.W.Frag) (mg : Str → Option Value) (base : Heap) (CX : CXT) (k : Nat) (C : Addr) (m : Str) (sp : Sp) : Prop where
  ex : ∃ f fd ps, FnOk P w K mg base CX k f fd ps sp ∧ Meth K C m f ∧ Binds K fd ps []
def tMkS (C : Addr) (sp : Sp) (E : L2.St → XK) (t : TA) : TE := fun σ H Q => t σ H fun vs H1 => ∀ x dx, H1 x = none → H1 dx = none → dx ≠ x → sp (.ref x :: vs) (upd (upd H1 dx (.own x)) x (.ins C dx [])) (fun v H2 => v = .non ∧ Q (.ref x) H2) (E σ)
def tMetS (C : Addr) (m : Str) (sp : Sp) (E : L2.St → XK) (ta : TE) (t : TA) : TE := fun σ H Q => ta σ H fun x H1 => ∃ a dx fs, x = .ref a ∧ H1 a = some (.ins C dx fs) ∧ fs.lookup m = none ∧ t σ H1 fun vs H2 => sp (x :: vs) H2 Q (E σ)
section
variable {X : Cx} {CX : CXT} {k j : Nat} {C : Addr} {x m : Str} {sp : Sp} {E : L2.St → XK} {W : WX} {p pos apos : Pos} {e o : Expr} {es : List Expr} {ta : TE} {t : TA}
theorem run_mkS {f : Addr} {fd : FuncData} {ps : List Str} {pins : List (Addr × Obj)} {σ : L2.St} {H : Hp} {s : Shared} {Q : VK} {us : List Value} {vs : List V} (M : Mk X.K C f) (F : FnOk X.prog X.w X.K X.mg X.base CX k f fd ps sp) (hr : Room (k + 1) X.A) (hb : Binds X.K fd ps [])
    (hx : PassesAt CX X σ (E σ)) (I : Inv X pins σ H s) (r : Vals vs us)
    (h : ∀ x dx, H x = none → H dx = none → dx ≠ x → sp (.ref x :: vs) (upd (upd H dx (.own x)) x (.ins C dx [])) (fun v H2 => v = .non ∧ Q (.ref x) H2) (E σ)) :
    wpAny (model X.prog X.w) X.A (call (.ref C) us) (EP X pins σ Q) X.xe s := by
  have hq := h (s.heap.objs.size + 1) s.heap.objs.size (I.hok.fresh (Nat.le_succ _)) (I.hok.fresh (Nat.le_refl _)) (Nat.ne_of_lt (Nat.lt_succ_self _))
  have I2 := Inv.made (C := C) I
  have r2 : Vals (V.ref (s.heap.objs.size + 1) :: vs) (Value.ref (s.heap.objs.size + 1) :: us) := .cons rfl r
  have hl : (Value.ref (s.heap.objs.size + 1) :: us ++ []).length = ps.length := by
    have e := r2.length
    rw [F.len _ _ _ _ hq] at e
    rw [List.append_nil]
    exact e.symm
  have hbb := hb _ (Value.ref (s.heap.objs.size + 1) :: us) I2.kIn hl
  rw [List.append_nil] at hbb
  refine wpAny_call (make_map (f := f) I.kIn M.makes M.init (beq_iff_eq.mp M.fn) (codeAny_mono (F.run _ X.stack _ _ ⟨Value.ref (s.heap.objs.size + 1) :: us, []⟩ (Value.ref (s.heap.objs.size + 1) :: us) _ _ (E σ) (hr.make C us [])
    (I2.env0.make C us []) hbb r2 hq) fun r s' hq' => ?_))
  cases r with
  | error e => exact hx pins _ _ e s' I2 hq'
  | ok fl =>
    cases fl with
    | ret u =>
      obtain ⟨v, H', I3, rv, ev, q3⟩ := I2.after hq'
      subst ev
      exact ⟨rv, ⟨V.ref (s.heap.objs.size + 1), H', I3, rfl, q3⟩⟩
    | next => exact False.elim hq'
    | brk => exact False.elim hq'
    | cont => exact False.elim hq'
theorem pe_mkS (c : MkOk X.prog X.w X.K X.mg X.base CX k C sp) (hM : PySem.W.makesIn X.K C = true ∧ PySem.W.keepIn X.K (.ref C) = true) (hr : Room j X.A) (hk : k + 1 ≤ j) (hx : ∀ σ, PassesAt CX X σ (E σ)) (hg : Gl X x) (hm : X.mg x = some (.ref C))
    (ha : PA X (e :: es) t) (hdb : (x == ("__debug__" : Str)) = false := by decide) (he : starEach (e :: es) X.env = (false, eval e X.env) :: starEach es X.env := by rfl) (hpl : (backTo pos (starEach es X.env)).any (·.1) = false := by rfl) :
    PE X (.Call (.Name x p) (e :: es) [] pos) (tMkS C sp E t) := by
  obtain ⟨f, fd, ps, F, hi, hfn, hb⟩ := c.ex
  have M : Mk X.K C f := ⟨hM.1, hi, hfn, hM.2⟩
  refine ⟨fun pins s σ H Q I h => ?_⟩
  refine wpAny_Call_Name_kw (ld_glob I hg hm ?_ hdb)
  refine PySem.W.callWith_K (h₀ := X.base) I.ok.mod.kin M.kp (thn (ha.run pos pins s σ H _ I h) fun us s1 ⟨vs, H1, I1, r, q⟩ => ⟨I1.kIn, ?_⟩) he hpl
  exact run_mkS M F (hr.mono hk) hb (hx σ) I1 r q
theorem pe_mkX (c : MkOk X.prog X.w X.K X.mg X.base (L2.CX X.prog X.w) k C sp) (hM : PySem.W.makesIn X.K C = true ∧ PySem.W.keepIn X.K (.ref C) = true) (hr : Room j X.A) (hk : k + 1 ≤ j) (tk : Takes X W) (hg : Gl X x) (hm : X.mg x = some (.ref C))
    (ha : PA X (e :: es) t) (hdb : (x == ("__debug__" : Str)) = false := by decide) (he : starEach (e :: es) X.env = (false, eval e X.env) :: starEach es X.env := by rfl) (hpl : (backTo pos (starEach es X.env)).any (·.1) = false := by rfl) :
    PE X (.Call (.Name x p) (e :: es) [] pos) (tMkS C sp (WE W) t) := pe_mkS c hM hr hk (fun σ => passAt tk σ) hg hm ha hdb he hpl
theorem pe_mkN (c : MkOk X.prog X.w X.K X.mg X.base (L2.CX X.prog X.w) k C sp) (hM : PySem.W.makesIn X.K C = true ∧ PySem.W.keepIn X.K (.ref C) = true) (hr : Room j X.A) (hk : k + 1 ≤ j) (hg : Gl X x) (hm : X.mg x = some (.ref C))
    (ha : PA X (e :: es) t) (hdb : (x == ("__debug__" : Str)) = false := by decide) (he : starEach (e :: es) X.env = (false, eval e X.env) :: starEach es X.env := by rfl) (hpl : (backTo pos (starEach es X.env)).any (·.1) = false := by rfl) :
    PE X (.Call (.Name x p) (e :: es) [] pos) (tMkS C sp (fun _ => E0) t) := pe_mkS c hM hr hk (fun σ pins H s e s' I h => passL pins σ H s e s' I h) hg hm ha hdb he hpl
theorem pe_mtS {pl : Sem Bool} (c : MtOk X.prog X.w X.K X.mg X.base CX k C m sp) (cl : Cls X.K C) (hr : Room j X.A) (hk : k ≤ j) (hx : ∀ σ, PassesAt CX X σ (E σ)) (ho : PE X o ta) (ha : PA X (e :: es) t)
    (hst : starEach (e :: es) X.env = (false, eval e X.env) :: starEach es X.env := by rfl) (hpl : (backTo pos (starEach es X.env)).any (·.1) = false := by rfl)
    (ht : eval (.Call (.Attribute o m apos) (e :: es) [] pos) X.env = (do
      let ov ← eval o X.env
      standAt apos.atName
      let (f, first) ← holding [ov] (getMethod ov m pl)
      callWith pos f first (backTo pos (starEach (e :: es) X.env)) (backToKw pos (keywordEach [] X.env))) := by rfl) :
    PE X (.Call (.Attribute o m apos) (e :: es) [] pos) (tMetS C m sp E ta t) := by
  obtain ⟨f, fd, ps, F, hm, hb⟩ := c.ex
  refine ⟨fun pins s σ H Q I h => ?_⟩
  refine PySem.W.methodCall_KW (pl := pl) (thn (ho.run pins s σ H _ I h) fun u s1 ⟨x, H1, I1, rx, a, dx, fs, ex, ea, l, q⟩ => ?_) ht
  subst ex
  obtain rfl : u = Value.ref a := rx
  refine getmeth_ok I1 ea cl hm l ?_
  refine PySem.W.callWith_K (first := [.ref a]) (h₀ := X.base) I.ok.mod.kin hm.kp (thn (ha.run pos pins s1 σ H1 _ I1 q) fun us s2 ⟨vs, H2, I2, r, q2⟩ => ⟨I2.kIn, ?_⟩) hst hpl
  exact run_fnS (us := .ref a :: us) (vs := .ref a :: vs) F (hr.mono hk) hb (hx σ) I2 (.cons rfl r) q2
theorem pe_mtX {pl : Sem Bool} (c : MtOk X.prog X.w X.K X.mg X.base (L2.CX X.prog X.w) k C m sp) (cl : Cls X.K C) (hr : Room j X.A) (hk : k ≤ j) (tk : Takes X W) (ho : PE X o ta) (ha : PA X (e :: es) t)
    (hst : starEach (e :: es) X.env = (false, eval e X.env) :: starEach es X.env := by rfl) (hpl : (backTo pos (starEach es X.env)).any (·.1) = false := by rfl)
    (ht : eval (.Call (.Attribute o m apos) (e :: es) [] pos) X.env = (do
      let ov ← eval o X.env
      standAt apos.atName
      let (f, first) ← holding [ov] (getMethod ov m pl)
      callWith pos f first (backTo pos (starEach (e :: es) X.env)) (backToKw pos (keywordEach [] X.env))) := by rfl) :
    PE X (.Call (.Attribute o m apos) (e :: es) [] pos) (tMetS C m sp (WE W) ta t) := pe_mtS (pl := pl) c cl hr hk (fun σ => passAt tk σ) ho ha hst hpl ht
theorem pe_mtN {pl : Sem Bool} (c : MtOk X.prog X.w X.K X.mg X.base (L2.CX X.prog X.w) k C m sp) (cl : Cls X.K C) (hr : Room j X.A) (hk : k ≤ j) (ho : PE X o ta) (ha : PA X (e :: es) t)
    (hst : starEach (e :: es) X.env = (false, eval e X.env) :: starEach es X.env := by rfl) (hpl : (backTo pos (starEach es X.env)).any (·.1) = false := by rfl)
    (ht : eval (.Call (.Attribute o m apos) (e :: es) [] pos) X.env = (do
      let ov ← eval o X.env
      standAt apos.atName
      let (f, first) ← holding [ov] (getMethod ov m pl)
      callWith pos f first (backTo pos (starEach (e :: es) X.env)) (backToKw pos (keywordEach [] X.env))) := by rfl) :
    PE X (.Call (.Attribute o m apos) (e :: es) [] pos) (tMetS C m sp (fun _ => E0) ta t) := pe_mtS (pl := pl) c cl hr hk (fun σ pins H s e s' I h => passL pins σ H s e s' I h) ho ha hst hpl ht
theorem pe_mt00 {pl : Sem Bool} (c : MtOk X.prog X.w X.K X.mg X.base CX0 k C m sp) (cl : Cls X.K C) (hr : Room j X.A) (hk : k ≤ j) (ho : PE X o ta)
    (ht : eval (.Call (.Attribute o m apos) [] [] pos) X.env = (do
      let ov ← eval o X.env
      standAt apos.atName
      let (f, first) ← holding [ov] (getMethod ov m pl)
      callWith pos f first (backTo pos (starEach [] X.env)) (backToKw pos (keywordEach [] X.env))) := by rfl) :
    PE X (.Call (.Attribute o m apos) [] [] pos) (tMetS C m sp (fun _ => E0) ta tNil) := by
  obtain ⟨f, fd, ps, F, hm, hb⟩ := c.ex
  have h := pe_meth0 (X := X) (dvs := []) (E := E0) (pl := pl) ho cl hm F (hr.mono hk) hb .nil pass0 ht
  refine ⟨fun pins s σ H Q I q => ?_⟩
  exact h.run pins s σ H Q I q
end

/-! ### for i, c in enumerate(text) -/
def IteS (l : List Nat) : It :=
  ⟨fun i H => i < l.length, fun i H v H' => ∃ T c, v = .ref T ∧ H T = none ∧ H' = upd H T (.tup [.int (i : Nat), vS [c]]) ∧ l[i]? = some c, fun i H => l.length ≤ i⟩
theorem strIter_it {x : Str} : strIterType x = "str_ascii_iterator" ∨ strIterType x = "str_iterator" := by
  unfold strIterType
  split
  · exact .inl rfl
  · exact .inr rfl
theorem turn_enumS {P : Program} {w : World} {K : PySem.W.Frag} {elts : List Expr} {kk : Nat} {tpos : Pos} (l : List Nat) (t : Tok) (e it : Addr) :
    Turn P w K (.Tuple elts kk tpos) (IteS l) [e, it] e (fun i h => (∃ old, IsEnum h e it ((i : Nat) : Int) old) ∧ h.IsStrIter it (strIterType (S l)) (S l) t i ∧ e ≠ it ∧ i ≤ l.length) where
  mem := by simp
  obj := fun i h st b hb => by
    obtain ⟨⟨old, he⟩, ⟨o, ho, hc, hd⟩, _⟩ := st
    have e' : b = e ∨ b = it := by simpa using hb
    rcases e' with z | z
    · rw [z]; exact ⟨_, he, fun v q => nomatch q⟩
    · rw [z]; exact ⟨o, ho, fun v q => by rw [hd] at q; cases q⟩
  keep := fun i h h' st k => let ⟨⟨old, he⟩, ⟨o, ho, hc, hd⟩, hne⟩ := st; ⟨⟨old, k e (by simp) _ he⟩, ⟨o, k it (by simp) _ ho, hc, hd⟩, hne⟩
  item := by
    intro X hP hw hK hc i pins s σ H E I hf st hg
    subst hP hw hK
    obtain ⟨⟨old, he⟩, hit, hne, _⟩ := st
    have hlt : i < (S l).cps.size := by
      show i < l.toArray.size
      rw [List.size_toArray]
      exact hg
    have hel : e < s.heap.objs.size := Heap.lt_size he
    have hil : it < s.heap.objs.size := by obtain ⟨_, q, _⟩ := hit; exact Heap.lt_size q
    have D := Draws.text (prog := X.prog) (w := X.w) (A := X.A.in1) (show X.A.in1.handled = none from I.ok.hd hc) it (S l) t
    refine wpAny_pyNext_enum_itemC D he hit hlt hne (by simpa using hne) fun u h' tk hP ho hit' hT hsz hk => ?_
    obtain ⟨c, tc, hx, hu⟩ := hP
    subst hu
    have hx' : l[i]? = some c := by
      have : (S l).cps[i]? = l[i]? := by simp
      rw [← this]
      exact hx
    refine ⟨_, rfl, wpAny_letOwnedTupleGo_enum (s := { s with heap := h', toks := tk + 1 }) ho fun h'' he' sb => ?_⟩
    have hT2 : h''.get? s.heap.objs.size = some { cls := .type "tuple", data := .seq #[.int i tk, .str ⟨#[c]⟩ tc] } := (sb.2 _ (Nat.ne_of_gt hel)).trans hT
    have new : ObjOk X.prog X.w (upd H s.heap.objs.size (.tup [.int (i : Nat), vS [c]])) h'' s.heap.objs.size (.tup [.int (i : Nat), vS [c]]) :=
      ⟨by show 2 ≤ sizeLine; decide, [.int i tk, .str ⟨#[c]⟩ tc], .cons ⟨_, rfl⟩ (.cons ⟨_, rfl⟩ .nil), ⟨_, hT2, rfl, _, rfl⟩⟩
    have I1 : Inv X pins σ (upd H s.heap.objs.size (.tup [.int (i : Nat), vS [c]])) { s with heap := h'', toks := tk + 1 } :=
      I.turnedNew (ch := [e, it]) (fun b ob hb q => (sb.2 b (fun z => hb (by simp [z]))).trans (hk b ob (fun z => hb (by simp [z])) (fun z => hb (by simp [z])) q)) hf (Nat.le_refl _) new
    obtain ⟨o3, ho3, hc3, hd3⟩ := hit'
    refine ⟨.ref s.heap.objs.size, _, I1, rfl, ⟨_, c, rfl, I.hok.fresh (Nat.le_refl _), rfl, hx'⟩, ⟨⟨.str ⟨#[c]⟩ tc, ?_⟩, ⟨o3, (sb.2 it (Ne.symm hne)).trans ho3, hc3, hd3⟩, hne, hg⟩, fun b hb => ?_⟩
    · have e1 : ((i + 1 : Nat) : Int) = (i : Int) + 1 := by omega
      rw [e1]; exact he'
    · have hb' : b < s.heap.objs.size := by
        have e' : b = e ∨ b = it := by simpa using hb
        rcases e' with z | z
        · rw [z]; exact hel
        · rw [z]; exact hil
      rw [upd_ne (Nat.ne_of_lt hb')]
      exact (hf b hb).1
  done := by
    intro X hP hw hK hc i pins s σ H E I hf st hg
    subst hP hw hK
    obtain ⟨⟨old, he⟩, hit, hne, hle⟩ := st
    obtain ⟨f0, f1, f2, f3, f4, f5⟩ := hf it (by simp)
    have D := Draws.text (prog := X.prog) (w := X.w) (A := X.A.in1) (show X.A.in1.handled = none from I.ok.hd hc) it (S l) t
    have ei : i = l.length := Nat.le_antisymm hle hg
    subst ei
    have hit2 : s.heap.IsStrIter it (strIterType (S l)) (S l) t (S l).cps.size := by
      have : (S l).cps.size = l.length := by simp
      rw [this]
      exact hit
    exact wpAny_pyNext_enum_endD D he hit2 fun h' eb => ⟨rfl, I.turned (t' := s.toks) (fun b o hb q => eb b o hb q) f0 f1 f3 f4 f5⟩
  self := fun A i s Q E st h => let ⟨⟨_, he⟩, _⟩ := st; wpAny_pyIter_enum he h
def iEnumS (ta : TA) : TI := fun σ H R => ta σ H fun vs H1 => ∃ l : List Nat, vs = [vS l] ∧ R (IteS l) H1
theorem i_enumS {ta : TA} {σ : L2.St} {H : Hp} {R : It → Hp → Prop} (h : ta σ H fun vs H1 => ∃ l : List Nat, vs = [vS l] ∧ R (IteS l) H1) : iEnumS ta σ H R := h
theorem pi_enumS {X : Cx} {e : Expr} {ta : TA} {p pos tpos : Pos} {elts : List Expr} {kk : Nat} (hg : Gl X "enumerate") (hm : X.mg "enumerate" = none) (ha : PA X [e] ta) (hs : starEach [e] X.env = [(false, eval e X.env)] := by rfl) :
    PI X (.Tuple elts kk tpos) (.Call (.Name "enumerate" p) [e] [] pos) (iEnumS ta) := by
  refine ⟨fun pins s σ H R I h => ?_⟩
  refine Call_ (ld_blt I hg hm boot_enumerate (PyProof.Rows.callWith_type1 (thn (ha.run pos pins s σ H _ I h) fun us s1 ⟨vs, H1, I1, r1, q1⟩ => ?_) hs rfl))
  obtain ⟨l, ex, q⟩ := q1
  subst ex
  cases r1 with
  | cons r rr =>
    cases rr
    obtain ⟨t, e⟩ := r
    subst e
    refine call_enumerate_str fun h' he hit hsz hk => wpAny_pyIter_enum he ?_
    have I2 : Inv X pins σ H1 { s1 with heap := h' } := I1.kept (t' := s1.toks) hk
    refine ⟨s1.heap.objs.size + 1, [s1.heap.objs.size + 1, s1.heap.objs.size], _, _, H1, rfl, I2, turn_enumS l t (s1.heap.objs.size + 1) s1.heap.objs.size, ⟨⟨.none, he⟩, hit, Nat.succ_ne_self _, Nat.zero_le _⟩, fun b hb => ?_, q⟩
    have e' : b = s1.heap.objs.size + 1 ∨ b = s1.heap.objs.size := by simpa using hb
    have hle : s1.heap.objs.size ≤ b := by
      rcases e' with z | z
      · rw [z]; exact Nat.le_add_right _ _
      · rw [z]; exact Nat.le_refl _
    exact I1.fpOk hle (I1.hok.fresh hle)
/-- a loop over it -/
theorem for_enumS {l : List Nat} {g : TG} {tb : TS} {D : Ends} {σ : L2.St} {H : Hp} (Pv : Nat → L2.St → Hp → Prop) (h0 : Pv 0 σ H)
    (hs : ∀ i c σ H T, l[i]? = some c → Pv i σ H → H T = none → g (.ref T) σ (upd H T (.tup [.int (i : Nat), vS [c]])) fun σ2 H2 => tb { D with nx := Pv (i + 1), ct := Pv (i + 1), bk := D.nx } σ2 H2) (hd : ∀ σ H, Pv l.length σ H → D.nx σ H) :
    ∃ W : Nat → Nat → L2.St → Hp → Prop, (∃ m, W 0 m σ H) ∧ ∀ i m σ H, W i m σ H →
      ((IteS l).stop i H ∧ D.nx σ H) ∨ ((IteS l).go i H ∧ ∃ N : L2.St → Hp → Prop, (∀ σ' H', N σ' H' → ∃ m', m' < m ∧ W (i + 1) m' σ' H') ∧ ∀ x H', (IteS l).yld i H x H' → g x σ H' fun σ2 H2 => tb { D with nx := N, ct := N, bk := D.nx } σ2 H2) := by
  refine ⟨fun i m σ H => m = l.length - i ∧ i ≤ l.length ∧ Pv i σ H, ⟨l.length, by simp, Nat.zero_le _, h0⟩, ?_⟩
  rintro i m σ H ⟨rfl, hi, p⟩
  by_cases hlt : i < l.length
  · refine .inr ⟨hlt, Pv (i + 1), fun σ' H' p' => ⟨l.length - (i + 1), by omega, rfl, hlt, p'⟩, fun x H' y => ?_⟩
    obtain ⟨T, c, rfl, hT, rfl, hc⟩ := y
    exact hs i c σ H T hc p hT
  · have e : i = l.length := by omega
    subst e
    exact .inl ⟨Nat.le_refl _, hd σ H p⟩
end Pw

/-! What a call has made on its way is forgotten. -/
namespace Pw
open PySem PySem.Spec PyProof.Rows L2
def simpleO : HO → Bool
  | .lst _ => true
  | .tup _ => true
  | .dK _ => true
  | _ => false
/-- a dict with tuple keys, locked or not -/
def dtree : HO → Bool
  | .dT _ => true
  | .frz _ u => dtree u
  | _ => false
def noDT (H : Hp) : Hp := fun a => match H a with
  | some o => if dtree o = true then none else some o
  | none => none
theorem noDT_some {H : Hp} {a : Addr} {o : HO} (h : noDT H a = some o) : H a = some o ∧ dtree o = false := by
  unfold noDT at h
  cases e : H a with
  | none =>
    rw [e] at h
    cases h
  | some u =>
    rw [e] at h
    dsimp only at h
    split at h
    · cases h
    · rename_i hd
      cases h
      exact ⟨rfl, by simpa using hd⟩
theorem noDT_of {H : Hp} {a : Addr} {o : HO} (h : H a = some o) (hd : dtree o = false) : noDT H a = some o := by
  unfold noDT
  rw [h]
  dsimp only
  rw [if_neg (by rw [hd]; exact Bool.false_ne_true)]
theorem noDT_none {H : Hp} {a : Addr} (h : noDT H a = none) : H a = none ∨ ∃ o, H a = some o ∧ dtree o = true := by
  unfold noDT at h
  cases e : H a with
  | none => exact .inl rfl
  | some u =>
    rw [e] at h
    dsimp only at h
    split at h
    · rename_i hd
      exact .inr ⟨u, rfl, hd⟩
    · cases h
theorem noDT_n {H : Hp} {a : Addr} (h : H a = none) : noDT H a = none := by
  unfold noDT
  rw [h]
theorem rd_noDT {H : Hp} {a : Addr} {u : HO} (h : Rd H a u) (hd : dtree u = false) : Rd (noDT H) a u := by
  rcases h with h | ⟨o, h⟩
  · exact .inl (noDT_of h hd)
  · exact .inr ⟨o, noDT_of h hd⟩
theorem sql_noDT {K : PySem.W.Frag} {H : Hp} {a : Addr} {xs : List V} (h : SqL K H a xs) : SqL K (noDT H) a xs := by
  rcases h with h | h
  · exact .inl (rd_noDT h rfl)
  · exact .inr h
theorem sqt_noDT {K : PySem.W.Frag} {H : Hp} {a : Addr} {xs : List V} (h : SqT K H a xs) : SqT K (noDT H) a xs := by
  rcases h with h | h
  · exact .inl (rd_noDT h rfl)
  · exact .inr h
section
variable {P : Program} {w : World}
theorem objOk_less {H H' : Hp} {h h' : Heap} {a : Addr} : ∀ (o : HO), ObjOk P w H' h' a o → ObjOk P w H h a o → dtree o = false → ObjOk P w H h' a o
  | .lst xs, x, _, _ => x
  | .tup xs, x, _, _ => x
  | .dK kvs, x, _, _ => x
  | .dT kvs, x, _, d => by cases d
  | .set S n, x, _, _ => x
  | .ins C dx fs, x, y, _ => by
    obtain ⟨_, z, ne, e, r⟩ := x
    obtain ⟨d, _⟩ := y
    exact ⟨d, z, ne, e, r⟩
  | .own y, x, _, _ => x
  | .xd fs, x, _, _ => x
  | .rng lo hi, x, _, _ => x
  | .frz ob u, x, y, d => ⟨x.1, objOk_less u x.2 y.2 d⟩
  | .tbl ps, x, _, _ => x
  | .met f y, x, _, _ => x
  | .ext φ, x, _, _ => x
theorem objOk_simple {H H' : Hp} {h : Heap} {a : Addr} {o : HO} (hs : simpleO o = true) (x : ObjOk P w H' h a o) : ObjOk P w H h a o := by
  cases o with
  | lst xs => exact x
  | tup xs => exact x
  | dK kvs => exact x
  | _ => cases hs
/-- a dict with tuple keys that stood and stands -/
theorem objOk_kept {H : Hp} {h h' : Heap} {a : Addr} : ∀ (o : HO), ObjOk P w H h a o → dtree o = true → (∀ u, h.get? a = some u → h'.get? a = some u) → ObjOk P w H h' a o
  | .dT kvs, x, _, k => by
    obtain ⟨z, y, xs, r, ob, es, ep, e, c⟩ := x
    exact ⟨z, y, xs, r, ob, es, ep, k _ e, c⟩
  | .frz ob u, x, d, k => ⟨k _ x.1, objOk_kept u x.2 d k⟩
  | .lst xs, _, d, _ => by cases d
  | .tup xs, _, d, _ => by cases d
  | .dK kvs, _, d, _ => by cases d
  | .set S n, _, d, _ => by cases d
  | .ins C dx fs, _, d, _ => by cases d
  | .own y, _, d, _ => by cases d
  | .xd fs, _, d, _ => by cases d
  | .rng lo hi, _, d, _ => by cases d
  | .tbl ps, _, d, _ => by cases d
  | .met f y, _, d, _ => by cases d
  | .ext φ, _, d, _ => by cases d
def updAll (H : Hp) : List (Addr × HO) → Hp
  | [] => H
  | p :: r => upd (updAll H r) p.1 p.2
theorem updAll_cases {H : Hp} {b : Addr} {o : HO} : ∀ {news : List (Addr × HO)}, updAll H news b = some o → (b, o) ∈ news ∨ H b = some o
  | [], h => .inr h
  | p :: r, h => by
    by_cases e : b = p.1
    · subst e
      rw [updAll, upd_same] at h
      cases h
      exact .inl List.mem_cons_self
    · rw [updAll, upd_ne e] at h
      rcases updAll_cases h with q | q
      · exact .inl (List.mem_cons_of_mem _ q)
      · exact .inr q
theorem updAll_old {H : Hp} {b : Addr} : ∀ {news : List (Addr × HO)}, (∀ p ∈ news, b ≠ p.1) → updAll H news b = H b
  | [], _ => rfl
  | p :: r, h => by
    rw [updAll, upd_ne (h p List.mem_cons_self), updAll_old fun q hq => h q (List.mem_cons_of_mem _ hq)]
/-- the state that remembers the entry's objects and the new ones alone -/
theorem forget_hok {H H' : Hp} {h h' : Heap} {fs : List Addr} {news : List (Addr × HO)} (ok : HOk P w H h) (un : Un fs [] (noDT H) H' h h') (ok' : HOk P w H' h') (hfs : ∀ b ∈ fs, H b = none) (same : Same (noDT H) H')
    (hn : ∀ p ∈ news, simpleO p.2 = true ∧ H' p.1 = some p.2 ∧ noDT H p.1 = none) : (∀ p ∈ news, H p.1 = none) ∧ HOk P w (updAll H news) h' ∧ Un fs [] H (updAll H news) h h' := by
  have gone : ∀ b o, h.get? b = some o → noDT H b = none → H' b = none := fun b o e n => un.free b o e n (by simp)
  have fresh : ∀ p ∈ news, h.get? p.1 = none := fun p hp => by
    obtain ⟨_, h2, h3⟩ := hn p hp
    cases e : h.get? p.1 with
    | none => rfl
    | some o =>
      rw [gone _ _ e h3] at h2
      cases h2
  have freeH : ∀ p ∈ news, H p.1 = none := fun p hp => ok.gone (fresh p hp)
  have apart : ∀ b o, H b = some o → ∀ p ∈ news, b ≠ p.1 := fun b o e p hp z => by
    rw [z, freeH p hp] at e
    cases e
  have old : ∀ b o, H b = some o → updAll H news b = some o := fun b o e => (updAll_old (apart b o e)).trans e
  have dkeep : ∀ b o, H b = some o → dtree o = true → ∀ u, h.get? b = some u → h'.get? b = some u := fun b o e d u q => by
    have nb : noDT H b = none := by
      unfold noDT
      rw [e]
      dsimp only
      rw [if_pos d]
    refine un.keep b u q nb (fun hb => ?_) (by simp)
    rw [hfs b hb] at e
    cases e
  refine ⟨freeH, fun b o e => ?_, ?_⟩
  · rcases updAll_cases e with q | q
    · exact objOk_simple (hn _ q).1 (ok' b o (hn _ q).2.1)
    · have base : ObjOk P w H h' b o := by
        cases d : dtree o with
        | false => exact objOk_less o (ok' b o (same b o (noDT_of q d))) (ok b o q) d
        | true => exact objOk_kept o (ok b o q) d (dkeep b o q d)
      exact base.stay (fun _ _ _ z => z) (fun c z => old _ _ z) fun c xs z => old _ _ z
  · refine ⟨fun b o e n hb hx => un.keep b o e (noDT_n n) hb hx, fun b o e n hb hx => un.slot b o e (noDT_n n) hb hx, fun b o e n hx => ?_, un.there, fun b xs e => old _ _ e, fun b o u e => old _ _ e, fun b ps e => ⟨#[], by rw [old _ _ e]; simp⟩⟩
    rw [updAll_old fun p hp z => by
      rw [z, fresh p hp] at e
      cases e]
    exact n
end
section
variable {P : Program} {w : World} {K : PySem.W.Frag} {mg : Str → Option Value} {base : Heap} {k : Nat} {f : Addr} {fd : FuncData} {ps : List Str} {sp sp' : Sp}
theorem objOk_noDT {H : Hp} {h : Heap} {a : Addr} : ∀ (o : HO), ObjOk P w H h a o → dtree o = false → ObjOk P w (noDT H) h a o
  | .lst xs, x, _ => x
  | .tup xs, x, _ => x
  | .dK kvs, x, _ => x
  | .dT kvs, x, d => by cases d
  | .set S n, x, _ => x
  | .ins C dx fs, x, _ => by
    obtain ⟨d, r⟩ := x
    exact ⟨noDT_of d rfl, r⟩
  | .own y, x, _ => x
  | .xd fs, x, _ => x
  | .rng lo hi, x, _ => x
  | .frz ob u, x, d => ⟨x.1, objOk_noDT u x.2 d⟩
  | .tbl ps, x, _ => x
  | .met f y, x, _ => x
  | .ext φ, x, _ => x
theorem env0_noDT {A : Around} {outer : List Env} {s : Shared} {H : Hp} (e : Env0 P w K mg base A outer s H) : Env0 P w K mg base A outer s (noDT H) where
  frames := e.frames
  mod := e.mod
  bs := fun b o q => ⟨(e.bs b o q).1, noDT_n (e.bs b o q).2⟩
  bsz := e.bsz
  funs := e.funs
  frf := fun b hb => noDT_n (e.frf b hb)
  hok := fun b o q => objOk_noDT o (e.hok b o (noDT_some q).1) (noDT_some q).2
  bare := e.bare
/-- what the call has made is forgotten but for the news -/
def Fgt (H : Hp) (Q : VK) (v : V) (H' : Hp) : Prop := Same (noDT H) H' ∧ ∃ news : List (Addr × HO), (∀ p ∈ news, simpleO p.2 = true ∧ H' p.1 = some p.2 ∧ noDT H p.1 = none) ∧ ((∀ p ∈ news, H p.1 = none) → Q v (updAll H news))
theorem ce_forget {A : Around} {outer : List Env} {s s' : Shared} {H : Hp} {Q : VK} {u : Value} (e0 : Env0 P w K mg base A outer s H) (h : CE outer P w (noDT H) s (Fgt H Q) u s') : CE outer P w H s Q u s' := by
  obtain ⟨v, H', os, bare, un, hok, r, same, news, hn, q⟩ := h
  obtain ⟨h1, h2, h3⟩ := forget_hok e0.hok un hok e0.frf same hn
  exact ⟨v, _, os, bare, h3, h2, r, q h1⟩
theorem FnOk.forget (F : FnOk P w K mg base CX0 k f fd ps sp) (h : ∀ vs H Q E, sp' vs H Q E → sp vs (noDT H) (Fgt H Q) E) : FnOk P w K mg base CX0 k f fd ps sp' :=
  ⟨fun vs H Q E q => F.len vs _ _ E (h _ _ _ _ q), fun A outer s H args us vs Q E hr he hb hv hs => by
    refine codeAny_mono (F.run A outer s (noDT H) args us vs (Fgt H Q) E hr (env0_noDT he) hb hv (h _ _ _ _ hs)) fun r s' hq => ?_
    cases r with
    | error e => exact hq
    | ok fl =>
      cases fl with
      | ret u => exact ce_forget he hq
      | next => exact hq
      | brk => exact hq
      | cont => exact hq⟩
theorem cx_forget {A : Around} {outer : List Env} {s s' : Shared} {H : Hp} {E : XK} {u : Value} (e0 : Env0 P w K mg base A outer s H) (h : L2.CX P w outer (noDT H) s (fun cls d H' => Same (noDT H) H' ∧ E cls d H) u s') : L2.CX P w outer H s E u s' := by
  obtain ⟨a, B, H', cls, d, rfl, fl, hok, ub, ha, os, bare, same, q⟩ := h
  have dkeep : ∀ b o, H b = some o → dtree o = true → ∀ u, s.heap.get? b = some u → B.get? b = some u := fun b o e d u q => by
    have nb : noDT H b = none := by
      unfold noDT
      rw [e]
      dsimp only
      rw [if_pos d]
    refine ub.keep b u q nb fun hb => ?_
    rw [e0.frf b hb] at e
    cases e
  refine ⟨a, B, H, cls, d, rfl, fl, fun b o q => ?_, ⟨fun b o e n hb => ub.keep b o e (noDT_n n) hb, ub.slot, fun b o e n => n, ub.there, fun b xs e => e, fun b o xs e => e, fun b ps e => ⟨#[], by rw [e]; simp⟩⟩, ?_, os, bare, q⟩
  · cases d : dtree o with
    | false => exact objOk_less o (hok b o (same b o (noDT_of q d))) (e0.hok b o q) d
    | true => exact objOk_kept o (e0.hok b o q) d (dkeep b o q d)
  · cases e : H a with
    | none => rfl
    | some o =>
      cases d : dtree o with
      | false =>
        rw [same a o (noDT_of e d)] at ha
        cases ha
      | true =>
        obtain ⟨ob, q1⟩ := objOk_get (e0.hok a o e)
        have q2 := dkeep a o e d ob q1
        have z : B.get? a = none := fl.2.1
        rw [q2] at z
        cases z
theorem FnOk.forgetX (F : FnOk P w K mg base (L2.CX P w) k f fd ps sp) (h : ∀ vs H Q E, sp' vs H Q E → sp vs (noDT H) (Fgt H Q) (fun cls d H' => Same (noDT H) H' ∧ E cls d H)) : FnOk P w K mg base (L2.CX P w) k f fd ps sp' :=
  ⟨fun vs H Q E q => F.len vs _ _ _ (h _ _ _ _ q), fun A outer s H args us vs Q E hr he hb hv hs => by
    refine codeAny_mono (F.run A outer s (noDT H) args us vs (Fgt H Q) _ hr (env0_noDT he) hb hv (h _ _ _ _ hs)) fun r s' hq => ?_
    cases r with
    | error e => exact cx_forget he hq
    | ok fl =>
      cases fl with
      | ret u => exact ce_forget he hq
      | next => exact hq
      | brk => exact hq
      | cont => exact hq⟩
end
end Pw

/-! Promises, first part. -/
namespace Pw
open PySem PySem.Spec PyProof.Rows L2
def st (n : Nat) (vs : List V) : L2.St := vs.map some ++ List.replicate (n - vs.length) none
def ends (R : VK) : Ends := { nx := fun _ H' => R .non H', rt := R }
theorem fgt0 {H H' : Hp} {Q : VK} {v : V} (same : Same (noDT H) H') (q : Q v H) : Fgt H Q v H' := ⟨same, [], by simp, fun _ => q⟩
theorem fgt1 {H H' : Hp} {Q : VK} {v : V} {p : Addr} {o : HO} (same : Same (noDT H) H') (hs : simpleO o = true) (hp : H' p = some o) (np : noDT H p = none) (q : H p = none → Q v (upd H p o)) : Fgt H Q v H' :=
  ⟨same, [(p, o)], by simp [hs, hp, np], fun h => q (h (p, o) (by simp))⟩
theorem same_new {H : Hp} {p : Addr} {o : HO} (h : H p = none) : Same H (upd H p o) := fun b x e => by
  rw [upd_ne (ne_of_none e h)]
  exact e
theorem Same.new {H H1 : Hp} {p : Addr} {o : HO} (s : Same H H1) (h : H1 p = none) : Same H (upd H1 p o) := s.trans (same_new h)
/-- an object that H does not know may change -/
theorem Same.mut {H H1 : Hp} {p : Addr} {o : HO} (s : Same H H1) (h : H p = none) : Same H (upd H1 p o) := fun b x e => by
  rw [upd_ne (ne_of_none e h)]
  exact s b x e
theorem Same.sqt {K : PySem.W.Frag} {H H' : Hp} {a : Addr} {xs : List V} (e : Same H H') (h : SqT K H a xs) : SqT K H' a xs := by
  rcases h with (h | ⟨o, h⟩) | h
  · exact .inl (.inl (e _ _ h))
  · exact .inl (.inr ⟨o, e _ _ h⟩)
  · exact .inr h
section
variable {K : PySem.W.Frag} {C : Ad} {H : Hp} {Q : VK} {E : XK}
def cellAt (ns : List Int) (k : Nat) : Int := ns.getD k 0
def sp_l_of (K : PySem.W.Frag) (C : Ad) : Sp := fun vs H Q _ => ∃ (a : Addr) (ns : List Int) (k : Nat), vs = [.ref a, .int (k : Int)] ∧ SqL K H a (ns.map V.int) ∧ Q (.int (cellAt ns k)) H
theorem i_l_of {a : Addr} {ns : List Int} {z : Int} {k : Nat} (e : z = (k : Int)) (h : SqL K H a (ns.map V.int)) (q : Q (.int (cellAt ns k)) H) : sp_l_of K C [.ref a, .int z] H Q E := ⟨a, ns, k, by rw [e], h, q⟩
def sp_l_signs (K : PySem.W.Frag) (C : Ad) : Sp := fun vs H Q _ => vs = [] ∧ Q (vS signs) H
theorem i_l_signs (q : Q (vS signs) H) : sp_l_signs K C [] H Q E := ⟨rfl, q⟩
def optV : Option (List Nat) → V
  | some m => vS m
  | none => .non
def sp_l_read (K : PySem.W.Frag) (C : Ad) : Sp := fun vs H Q _ => ∃ l : List Nat, vs = [vS l] ∧ l.length ≤ 900000 ∧ Q (optV (nameOf l)) H
theorem i_l_read {l : List Nat} (h : l.length ≤ 900000) (q : Q (optV (nameOf l)) H) : sp_l_read K C [vS l] H Q E := ⟨l, rfl, h, q⟩
/-- a piece of at most three signs -/
def sp_l_piece_by (K : PySem.W.Frag) (C : Ad) : Sp := fun vs H Q _ => ∃ c : Int, vs = [.int c] ∧ ∀ l : List Nat, l.length ≤ 3 → Q (vS l) H
theorem i_l_piece_by {c : Int} (q : ∀ l : List Nat, l.length ≤ 3 → Q (vS l) H) : sp_l_piece_by K C [.int c] H Q E := ⟨c, rfl, q⟩
def sp_l_broken_by (K : PySem.W.Frag) (C : Ad) : Sp := fun vs H Q _ => ∃ c : Int, vs = [.int c] ∧ ∀ l : List Nat, l.length ≤ 3 → Q (vS l) H
theorem i_l_broken_by {c : Int} (q : ∀ l : List Nat, l.length ≤ 3 → Q (vS l) H) : sp_l_broken_by K C [.int c] H Q E := ⟨c, rfl, q⟩
def sp_p_sign_of (K : PySem.W.Frag) (C : Ad) : Sp := fun vs H Q E => ∃ l : List Nat, vs = [vS l] ∧ l.length ≤ 2 ∧ (∀ s, signOf l = some s → Q (vS [s]) H) ∧ (signOf l = none → E (.ref C.B) none H)
theorem i_p_sign_of {l : List Nat} (h : l.length ≤ 2) (q : ∀ s, signOf l = some s → Q (vS [s]) H) (e : signOf l = none → E (.ref C.B) none H) : sp_p_sign_of K C [vS l] H Q E := ⟨l, rfl, h, q, e⟩
def sp_p_name_of (K : PySem.W.Frag) (C : Ad) : Sp := fun vs H Q E => ∃ l : List Nat, vs = [vS l] ∧ l.length ≤ 900000 ∧ (∀ m, nameOf l = some m → Q (vS m) H) ∧ (nameOf l = none → E (.ref C.B) none H)
theorem i_p_name_of {l : List Nat} (h : l.length ≤ 900000) (q : ∀ m, nameOf l = some m → Q (vS m) H) (e : nameOf l = none → E (.ref C.B) none H) : sp_p_name_of K C [vS l] H Q E := ⟨l, rfl, h, q, e⟩
def sp_law (K : PySem.W.Frag) (C : Ad) : Sp := fun vs H Q _ => ∃ (a : Addr) (ns : List Int), vs = [.ref a] ∧ SqL K H a (ns.map V.int) ∧ ns.length ≤ 63 ∧ ∀ H', Q (.bl true) H'
end
end Pw

/-! Promises: names. -/
namespace Pw
open PySem PySem.Spec PyProof.Rows L2
section
variable {K : PySem.W.Frag} {C : Ad} {H : Hp} {Q : VK} {E : XK}
/-- a name that a law draws -/
structure Nm (l : List Nat) : Prop where
  nd : Named l
  lo : l ≠ []
  hi : l.length ≤ 43
def sp_l_name_by (K : PySem.W.Frag) (C : Ad) : Sp := fun vs H Q _ => ∃ c : Int, vs = [.int c] ∧ ∀ l : List Nat, Nm l → Q (vS l) H
theorem i_l_name_by {c : Int} (q : ∀ l : List Nat, Nm l → Q (vS l) H) : sp_l_name_by K C [.int c] H Q E := ⟨c, rfl, q⟩
def sp_p_escaped (K : PySem.W.Frag) (C : Ad) : Sp := fun vs H Q _ => ∃ c : Nat, vs = [vS [c]] ∧ Sign c ∧ Q (vS (esc c)) H
theorem i_p_escaped {c : Nat} (h : Sign c) (q : Q (vS (esc c)) H) : sp_p_escaped K C [vS [c]] H Q E := ⟨c, rfl, h, q⟩
def sp_l_escape (K : PySem.W.Frag) (C : Ad) : Sp := fun vs H Q _ => ∃ c : Nat, vs = [vS [c]] ∧ Sign c ∧ Q (vS (esc c)) H
theorem i_l_escape {c : Nat} (h : Sign c) (q : Q (vS (esc c)) H) : sp_l_escape K C [vS [c]] H Q E := ⟨c, rfl, h, q⟩
def sp_p_written (K : PySem.W.Frag) (C : Ad) : Sp := fun vs H Q _ => ∃ n : List Nat, vs = [vS n] ∧ Named n ∧ n.length ≤ 1000 ∧ Q (vS (written n)) H
theorem i_p_written {n : List Nat} (h : Named n) (hl : n.length ≤ 1000) (q : Q (vS (written n)) H) : sp_p_written K C [vS n] H Q E := ⟨n, rfl, h, hl, q⟩
def sp_l_must (K : PySem.W.Frag) (C : Ad) : Sp := fun vs H Q _ => ∃ (n : List Nat) (i c : Nat), vs = [vS n, .int (i : Int)] ∧ n[i]? = some c ∧ n.length ≤ 1000 ∧ Q (.bl (must n i c)) H
theorem i_l_must {n : List Nat} {i c : Nat} (h : n[i]? = some c) (hl : n.length ≤ 1000) (q : Q (.bl (must n i c)) H) : sp_l_must K C [vS n, .int (i : Int)] H Q E := ⟨n, i, c, rfl, h, hl, q⟩
def sp_l_due_part (K : PySem.W.Frag) (C : Ad) : Sp := fun vs H Q _ => ∃ n : List Nat, vs = [vS n] ∧ Named n ∧ n.length ≤ 1000 ∧ Q (vS (written n)) H
theorem i_l_due_part {n : List Nat} (h : Named n) (hl : n.length ≤ 1000) (q : Q (vS (written n)) H) : sp_l_due_part K C [vS n] H Q E := ⟨n, rfl, h, hl, q⟩
end
end Pw

/-! Promises: steps, paths, places. -/
namespace Pw
open PySem PySem.Spec PyProof.Rows L2
def tagRoot : List Nat := [114, 111, 111, 116]
def tagUp : List Nat := [117, 112]
def tagShare : List Nat := [115, 104, 97, 114, 101]
def tagName : List Nat := [110, 97, 109, 101]
/-- a step's texts -/
def stepT : Step → List (List Nat)
  | .root => [[114, 111, 111, 116]]
  | .up => [[117, 112]]
  | .share n => [[115, 104, 97, 114, 101], n]
  | .name n => [[110, 97, 109, 101], n]
def stepV (s : Step) : List V := (stepT s).map vS
section
variable {K : PySem.W.Frag}
def StepAt (K : PySem.W.Frag) (H : Hp) (v : V) (s : Step) : Prop := ∃ a, v = .ref a ∧ SqT K H a (stepV s)
/-- the list at p holds the steps ss -/
def Steps (K : PySem.W.Frag) (H : Hp) (p : Addr) (ss : List Step) : Prop := ∃ vs, H p = some (.lst vs) ∧ Paired (StepAt K H) vs ss
/-- the pair of a line and its steps -/
def PathAt (K : PySem.W.Frag) (H : Hp) (v : V) (l : List Nat) (ss : List Step) : Prop := ∃ t p, v = .ref t ∧ SqT K H t [vS l, .ref p] ∧ Steps K H p ss
/-- .. its list new -/
def PathNew (K : PySem.W.Frag) (H0 H : Hp) (v : V) (l : List Nat) (ss : List Step) : Prop := ∃ t p, v = .ref t ∧ SqT K H t [vS l, .ref p] ∧ Steps K H p ss ∧ H0 p = none
theorem PathNew.at {H0 H : Hp} {v : V} {l : List Nat} {ss : List Step} (h : PathNew K H0 H v l ss) : PathAt K H v l ss := by
  obtain ⟨t, p, h1, h2, h3, _⟩ := h
  exact ⟨t, p, h1, h2, h3⟩
theorem StepAt.same {H H' : Hp} {v : V} {s : Step} (e : Same H H') (h : StepAt K H v s) : StepAt K H' v s := by
  obtain ⟨a, rfl, h⟩ := h
  exact ⟨a, rfl, Same.sqt e h⟩
theorem paired_mono {α β : Type} {R R' : α → β → Prop} (hR : ∀ x y, R x y → R' x y) : ∀ {xs : List α} {ys : List β}, Paired R xs ys → Paired R' xs ys := by
  intro xs ys h
  induction h with
  | nil => exact .nil
  | cons r _ ih => exact .cons (hR _ _ r) ih
theorem paired_app {α β : Type} {R : α → β → Prop} {as : List α} {bs : List β} {cs : List α} {ds : List β} (h : Paired R as bs) (h2 : Paired R cs ds) : Paired R (as ++ cs) (bs ++ ds) := by
  induction h with
  | nil => exact h2
  | cons r _ ih => exact .cons r ih
theorem paired_get {α β : Type} {R : α → β → Prop} : ∀ {as : List α} {bs : List β} {i : Nat} {x : α}, Paired R as bs → as[i]? = some x → ∃ y, bs[i]? = some y ∧ R x y
  | _, _, _, _, .nil, h => by simp at h
  | _, _, 0, _, .cons r _, h => by
    simp at h
    subst h
    exact ⟨_, rfl, r⟩
  | _, _, i + 1, _, .cons _ t, h => by
    rw [List.getElem?_cons_succ] at h ⊢
    exact paired_get (i := i) t h
theorem paired_getR {α β : Type} {R : α → β → Prop} : ∀ {as : List α} {bs : List β} {i : Nat} {y : β}, Paired R as bs → bs[i]? = some y → ∃ x, as[i]? = some x ∧ R x y
  | _, _, _, _, .nil, h => by simp at h
  | _, _, 0, _, .cons r _, h => by
    simp at h
    subst h
    exact ⟨_, rfl, r⟩
  | _, _, i + 1, _, .cons _ t, h => by
    rw [List.getElem?_cons_succ] at h ⊢
    exact paired_getR (i := i) t h
theorem paired_len {α β : Type} {R : α → β → Prop} {as : List α} {bs : List β} (h : Paired R as bs) : as.length = bs.length := by
  induction h with
  | nil => rfl
  | cons _ _ ih => simp [ih]
theorem Steps.same {H H' : Hp} {p : Addr} {ss : List Step} (e : Same H H') (h : Steps K H p ss) : Steps K H' p ss := by
  obtain ⟨vs, h1, h2⟩ := h
  exact ⟨vs, e _ _ h1, paired_mono (fun _ _ r => r.same e) h2⟩
theorem PathAt.same {H H' : Hp} {v : V} {l : List Nat} {ss : List Step} (e : Same H H') (h : PathAt K H v l ss) : PathAt K H' v l ss := by
  obtain ⟨t, p, rfl, h1, h2⟩ := h
  exact ⟨t, p, rfl, Same.sqt e h1, h2.same e⟩
/-- a tuple stays where a list changes -/
theorem sqt_upd {H : Hp} {a p : Addr} {o : HO} {xs ts : List V} (h : H p = some (.lst xs)) (e : SqT K H a ts) : SqT K (upd H p o) a ts := by
  rcases e with (e | ⟨o', e⟩) | e
  · refine .inl (.inl ?_)
    rw [upd_ne]
    · exact e
    · intro z
      rw [z, h] at e
      cases e
  · refine .inl (.inr ⟨o', ?_⟩)
    rw [upd_ne]
    · exact e
    · intro z
      rw [z, h] at e
      cases e
  · exact .inr e
theorem StepAt.upd {H : Hp} {p : Addr} {o : HO} {xs : List V} {v : V} {s : Step} (h : H p = some (.lst xs)) (e : StepAt K H v s) : StepAt K (upd H p o) v s := by
  obtain ⟨a, rfl, e⟩ := e
  exact ⟨a, rfl, sqt_upd h e⟩
theorem Steps.put {H : Hp} {p : Addr} {xs vs : List V} {ss : List Step} (h : H p = some (.lst xs)) (e : Paired (StepAt K H) vs ss) : Steps K (upd H p (.lst vs)) p ss := ⟨vs, upd_same, paired_mono (fun _ _ r => r.upd h) e⟩
theorem Steps.other {H : Hp} {p q : Addr} {o : HO} {xs : List V} {ss : List Step} (h : H p = some (.lst xs)) (ne : q ≠ p) (e : Steps K H q ss) : Steps K (upd H p o) q ss := by
  obtain ⟨vs, h1, h2⟩ := e
  refine ⟨vs, ?_, paired_mono (fun _ _ r => r.upd h) h2⟩
  rw [upd_ne ne]
  exact h1
/-- what a step may hold -/
def StepOk (names : List (List Nat)) : Step → Prop
  | .root => True
  | .up => True
  | .share n => n ∈ names
  | .name n => Nm n
variable {C : Ad} {H : Hp} {Q : VK} {E : XK}
/-- a part that tells the name n -/
structure Part (n p : List Nat) : Prop where
  tells : nameOf p = some n
  free : 47 ∉ p
  plain : n ≠ [] → PlainPart p
  len : p.length ≤ 3 * n.length + 2
def sp_l_cells (K : PySem.W.Frag) (C : Ad) : Sp := fun vs H Q _ => ∃ (a : Addr) (ns : List Int) (s : Nat) (m : Int) (b : Bool), vs = [.ref a, .int (s : Int), .int m, .bl b] ∧ SqL K H a (ns.map V.int) ∧ -1000 ≤ m ∧ m ≤ 1000 ∧
  ∀ (p : Addr) (cs : List Int), H p = none → (cs.length : Int) ≤ 60 ∨ (cs.length : Int) ≤ m → Q (.ref p) (upd H p (.lst (cs.map V.int)))
theorem i_l_cells {a : Addr} {ns : List Int} {s : Int} {m : Int} {b : Bool} (hs : 0 ≤ s) (h : SqL K H a (ns.map V.int)) (hm : -1000 ≤ m ∧ m ≤ 1000) (q : ∀ (p : Addr) (cs : List Int), H p = none → (cs.length : Int) ≤ 60 ∨ (cs.length : Int) ≤ m → Q (.ref p) (upd H p (.lst (cs.map V.int)))) : sp_l_cells K C [.ref a, .int s, .int m, .bl b] H Q E := ⟨a, ns, s.toNat, m, b, by rw [Int.toNat_of_nonneg hs], h, hm.1, hm.2, q⟩
def sp_l_part_by (K : PySem.W.Frag) (C : Ad) : Sp := fun vs H Q _ => ∃ (n : List Nat) (c : Int), vs = [vS n, .int c] ∧ Named n ∧ n.length ≤ 1000 ∧ ∀ p, Part n p → Q (vS p) H
theorem i_l_part_by {n : List Nat} {c : Int} (h : Named n) (hl : n.length ≤ 1000) (q : ∀ p, Part n p → Q (vS p) H) : sp_l_part_by K C [vS n, .int c] H Q E := ⟨n, c, rfl, h, hl, q⟩
def sp_l_share_by (K : PySem.W.Frag) (C : Ad) : Sp := fun vs H Q _ => ∃ (n : List Nat) (c : Int), vs = [vS n, .int c] ∧ Named n ∧ n.length ≤ 1000 ∧ ∀ p, nameOf p = some n → 47 ∉ p → p.length ≤ 3 * n.length + 2 → Q (vS (64 :: p)) H
theorem i_l_share_by {n : List Nat} {c : Int} (h : Named n) (hl : n.length ≤ 1000) (q : ∀ p, nameOf p = some n → 47 ∉ p → p.length ≤ 3 * n.length + 2 → Q (vS (64 :: p)) H) : sp_l_share_by K C [vS n, .int c] H Q E := ⟨n, c, rfl, h, hl, q⟩
/-- names that a law has drawn, or none -/
def NmE (names : List (List Nat)) : Prop := ∀ n ∈ names, Named n ∧ n.length ≤ 43
/-- a path drawn of m cells: its line and its steps -/
structure Drawn (names : List (List Nat)) (m : Nat) (l : List Nat) (ss : List Step) : Prop where
  steps : stepsOf l = some ss
  ok : ∀ s ∈ ss, StepOk names s
  len : l.length ≤ 140 * m
  num : ss.length ≤ m + 1
def sp_l_path_by (K : PySem.W.Frag) (C : Ad) : Sp := fun vs H Q _ => ∃ (a b : Addr) (cs : List Int) (names : List (List Nat)), vs = [.ref a, .ref b] ∧ SqL K H a (cs.map V.int) ∧ SqL K H b (names.map vS) ∧ cs.length ≤ 1000 ∧ NmE names ∧ names.length ≤ 1000 ∧
  ∀ v H' l ss, Same H H' → PathNew K H H' v l ss → Drawn names cs.length l ss → Q v H'
theorem i_l_path_new {a b : Addr} {cs : List Int} {names : List (List Nat)} (h : SqL K H a (cs.map V.int)) (h2 : SqL K H b (names.map vS)) (hl : cs.length ≤ 1000) (hn : NmE names) (hnl : names.length ≤ 1000)
    (q : ∀ v H' l ss, Same H H' → PathNew K H H' v l ss → Drawn names cs.length l ss → Q v H') : sp_l_path_by K C [.ref a, .ref b] H Q E := ⟨a, b, cs, names, rfl, h, h2, hl, hn, hnl, q⟩
theorem i_l_path_by {a b : Addr} {cs : List Int} {names : List (List Nat)} (h : SqL K H a (cs.map V.int)) (h2 : SqL K H b (names.map vS)) (hl : cs.length ≤ 1000) (hn : NmE names) (hnl : names.length ≤ 1000)
    (q : ∀ v H' l ss, Same H H' → PathAt K H' v l ss → Drawn names cs.length l ss → Q v H') : sp_l_path_by K C [.ref a, .ref b] H Q E := ⟨a, b, cs, names, rfl, h, h2, hl, hn, hnl, fun v H' l ss s hp => q v H' l ss s hp.at⟩
def sp_p_step_of (K : PySem.W.Frag) (C : Ad) : Sp := fun vs H Q E => ∃ l : List Nat, vs = [vS l] ∧ l.length ≤ 900000 ∧ (∀ ss p H', stepOf l = some ss → Same H H' → Steps K H' p ss → H p = none → Q (.ref p) H') ∧ (stepOf l = none → E (.ref C.B) none H)
theorem i_p_step_of {l : List Nat} (h : l.length ≤ 900000) (q : ∀ ss p H', stepOf l = some ss → Same H H' → Steps K H' p ss → H p = none → Q (.ref p) H') (e : stepOf l = none → E (.ref C.B) none H) : sp_p_step_of K C [vS l] H Q E := ⟨l, rfl, h, q, e⟩
def sp_p_steps_of (K : PySem.W.Frag) (C : Ad) : Sp := fun vs H Q E => ∃ l : List Nat, vs = [vS l] ∧ l.length ≤ 900000 ∧ (∀ ss p H', stepsOf l = some ss → Same H H' → Steps K H' p ss → H p = none → Q (.ref p) H') ∧ (stepsOf l = none → ∀ H', Same H H' → E (.ref C.B) none H')
theorem i_p_steps_of {l : List Nat} (h : l.length ≤ 900000) (q : ∀ ss p H', stepsOf l = some ss → Same H H' → Steps K H' p ss → H p = none → Q (.ref p) H') (e : stepsOf l = none → ∀ H', Same H H' → E (.ref C.B) none H') : sp_p_steps_of K C [vS l] H Q E := ⟨l, rfl, h, q, e⟩
/-- every text of the steps is of signs -/
def StepNd : Step → Prop
  | .root => True
  | .up => True
  | .share n => Named n
  | .name n => Named n
def sp_l_alike (K : PySem.W.Frag) (C : Ad) : Sp := fun vs H Q _ => ∃ (p q : Addr) (ss : List Step), vs = [.ref p, .ref q] ∧ Steps K H p ss ∧ Steps K H q ss ∧ (∀ s ∈ ss, StepNd s) ∧ ss.length ≤ 100000 ∧ ∀ H', Same H H' → Q (.bl true) H'
theorem i_l_alike {p q : Addr} {ss : List Step} (h1 : Steps K H p ss) (h2 : Steps K H q ss) (hn : ∀ s ∈ ss, StepNd s) (hl : ss.length ≤ 100000) (k : ∀ H', Same H H' → Q (.bl true) H') : sp_l_alike K C [.ref p, .ref q] H Q E := ⟨p, q, ss, rfl, h1, h2, hn, hl, k⟩
end
end Pw

namespace Pw
open PySem PySem.Spec PyProof.Rows L2
section
variable {X : Cx} {a b : Expr} {ta tb : TE} {pos : Pos} {rest : List Stmt} {u : TS}
theorem pet_ix {r : R2} (hr : IxR X r) (ha : PET X a ta) (hb : PE X b tb) (hs : PlainIx b) : PET X (.Subscript a b pos) (tOp r ta tb) := by
  intro pins s σ H Q h0 I h
  refine Subscript_ (thn (ha pins s σ H _ h0 I h) fun v s1 hh => ?_)
  obtain ⟨x, H1, I1, rx, q1⟩ := hh
  refine thn (hb.run pins s1 σ H1 _ I1 q1) fun w s2 hh => ?_
  obtain ⟨y, H2, I2, ry, q2⟩ := hh
  exact hr a b pins s2 σ H2 x y v w Q I2 rx ry q2 (hs _ _)
/-- name = e op number: behind it a token is out -/
theorem pss_opT {i j : Nat} {z : Int} {x : Str} {op : Operator} {r : R2} {cpos bpos pos' : Pos} (hN : X.N.Nodup) (hi : X.N[i]? = some x) (hx : Loc X.env.scope x) (ho : OpR X (binaryOp op) r) (ha : PE X a ta) (h2 : PSsT X rest u)
    (hs : swapsWith (.BinOp a op (.Constant (.int z) j cpos) bpos) (some (.Name x pos')) pos.line X.env = pure false := by rfl) (hf : X.fn x = true ∨ X.env.scope.names.lookup x = some .local := by first | exact .inl rfl | exact .inr rfl | assumption) :
    PSs X (.Assign [.Name x pos'] (.BinOp a op (.Constant (.int z) j cpos) bpos) pos :: rest) (tSeq (tAsg (tOp r ta (tC (.int z))) (gName i)) u) := by
  refine ⟨fun pins s σ H D I h => ?_⟩
  refine wpAny_execs_cons (wpAny_Assign_Name (wpAny_BinOp (thn (ha.run pins s σ H _ I h) fun v s1 hh => ?_)) hs)
  obtain ⟨x1, H1, I1, r1, q1⟩ := hh
  refine wpAny_Constant_int ?_
  have hop := ho pins { s1 with toks := s1.toks + 1 } σ H1 x1 (.int z) v (.int z s1.toks) _ (I1.tok _) r1 ⟨_, rfl⟩ q1
  refine wpAny_mono (PySem.wpAny_toks hop) (fun w s2 q => ?_) fun _ _ z => z.2
  obtain ⟨hk, x2, H2, I2, r2, q2⟩ := q
  have hk : s1.toks + 1 ≤ s2.toks := hk
  refine wpAny_mono (PySem.wpAny_toks (store_ok (v := x2) (u := w) (Q := fun _ s3 => Inv X pins (σ.set i (some x2)) H2 s3) I2 hN hi hx r2 (fun _ I3 => I3) hf)) (fun _ s3 q => ?_) fun _ _ z => z.2
  exact h2 pins s3 _ H2 D (by have := q.1; omega) q.2 q2
end
end Pw

/-! Readings: lists. -/
namespace Pw
open PySem PySem.Spec PyProof.Rows L2
section
variable {K : PySem.W.Frag} {H : Hp} {Q : VK}
theorem i_cat {l b : Addr} {xs zs : List V} (h1 : H l = some (.lst xs)) (h2 : H b = some (.lst zs)) (hl : xs.length + zs.length ≤ 1000000) (q : ∀ p, H p = none → Q (.ref p) (upd H p (.lst (xs ++ zs)))) : rCat (.ref l) (.ref b) H Q := ⟨l, b, xs, zs, rfl, rfl, h1, h2, to_line hl, q⟩
theorem i_rep {l : Addr} {xs : List V} {z : Int} {n : Nat} (e : z = (n : Int)) (h1 : H l = some (.lst xs)) (hn : n ≤ 1000000) (hl : xs.length * n ≤ 1000000) (q : ∀ p, H p = none → Q (.ref p) (upd H p (.lst (List.replicate n xs).flatten))) : rRep (.ref l) (.int z) H Q :=
  ⟨l, (n : Int), xs, rfl, by rw [e], h1, by omega, by omega, by rw [Int.toNat_natCast]; exact to_line hl, by rw [Int.toNat_natCast]; exact q⟩
theorem i_append {l : Addr} {xs : List V} {y : V} (h : H l = some (.lst xs)) (hl : xs.length < 1000000) (q : Q .non (upd H l (.lst (xs ++ [y])))) : rAppend (.ref l) [y] H Q := ⟨l, xs, y, rfl, rfl, h, to_lineL hl, q⟩
theorem i_extend {l b : Addr} {xs zs : List V} (h : H l = some (.lst xs)) (h2 : H b = some (.lst zs)) (hl : xs.length + zs.length ≤ 1000000) (q : Q .non (upd H l (.lst (xs ++ zs)))) : rExtend (.ref l) [.ref b] H Q := ⟨l, b, xs, zs, rfl, rfl, h, h2, to_line hl, q⟩
theorem i_mkL {xs : List V} (hl : xs.length ≤ 1000000) (q : ∀ p, H p = none → Q (.ref p) (upd H p (.lst xs))) : xs.length ≤ sizeLine ∧ ∀ p, H p = none → Q (.ref p) (upd H p (.lst xs)) := ⟨to_line hl, q⟩
theorem i_mkT {xs : List V} (hl : xs.length ≤ 1000000) (q : ∀ p, H p = none → Q (.ref p) (upd H p (.tup xs))) : xs.length ≤ sizeLine ∧ ∀ p, H p = none → Q (.ref p) (upd H p (.tup xs)) := ⟨to_line hl, q⟩
theorem i_tyL {A : Prop} {l : Addr} {xs : List V} (h : H l = some (.lst xs)) (a : A) : tyV K "list" (.ref l) H ∧ A := ⟨.inl ⟨rfl, _, SqL.of h⟩, a⟩
theorem lk {p q : Addr} {o u : HO} (h : H p = some o) (hq : H q = none) : upd H q u p = some o := by
  rw [upd_ne (ne_of_none h hq)]
  exact h
theorem i_raise {D : Ends} {σ : L2.St} {W : WX} {cls : Value} (q : W cls none σ H) : tRaise W cls D σ H := q
theorem i_strD' {z : Int} (h : 0 ≤ z ∧ z < 10) (q : Q (vS [48 + z.toNat]) H) : qStrD [.int z] H Q := i_strD (n := z.toNat) (by omega) (by omega) q
theorem i_strN' {z : Int} (h : 0 ≤ z ∧ z < 94) (q : Q (vS (numS z.toNat)) H) : qStrN [.int z] H Q := i_strN (n := z.toNat) (by omega) (by omega) q
theorem strike_S (l : List Nat) (c : Nat) : Txt.replace (S l) ⟨#[c]⟩ ⟨#[]⟩ = S (l.filter (· != c)) := TL.ext_tl (PyProof.Rows.replace_strikes (S l) c)
theorem i_repl {to : TE} {σ : L2.St} {l : List Nat} {c : Nat} {y z : Str} (hy : y = ⟨#[c]⟩) (hz : z = ⟨#[]⟩) (hl : l.length ≤ 1000000) (h : to σ H fun v H1 => v = vS l ∧ Q (vS (l.filter (· != c))) H1) (mono : ∀ Q Q' : VK, (∀ v H, Q v H → Q' v H) → to σ H Q → to σ H Q') : CwR.tReplC to y z σ H Q := by
  subst hy hz
  refine mono _ _ (fun v H1 hh => ?_) h
  obtain ⟨rfl, q⟩ := hh
  refine ⟨S l, rfl, ?_, ?_⟩
  · rw [S_len]
    show l.length + (l.length + 1) * 0 ≤ _
    omega
  · rw [strike_S]
    exact q
theorem i_cut {D : Ends} {σ : L2.St} {t u : TS} (Mid : L2.St → Hp → Prop) (h1 : t { D with nx := Mid } σ H) (h2 : ∀ σ' H', Mid σ' H' → u D σ' H') : C8.tCut t u D σ H := ⟨Mid, h1, h2⟩
theorem i_l_of' {C : Ad} {E : XK} {a : Addr} {ns : List Int} {z : Int} (hz : 0 ≤ z) (h : SqL K H a (ns.map V.int)) (q : Q (.int (cellAt ns z.toNat)) H) : sp_l_of K C [.ref a, .int z] H Q E := i_l_of (k := z.toNat) (by omega) h q
theorem new_ne {p q : Addr} {o : HO} (h : upd H p o q = none) : p ≠ q ∧ H q = none := by
  by_cases e : q = p
  · rw [e, upd_same] at h
    cases h
  · rw [upd_ne e] at h
    exact ⟨fun z => e z.symm, h⟩
theorem i_isStr {l : List Nat} (q : Q (.bl true) H) : rIsi K [vS l, .ty "str"] H Q := ⟨_, _, .type "str", .type "str", true, rfl, .ty _, .base (.str _), kit_ty (by decide +kernel), q⟩
end
theorem drop_at {α : Type} {l : List α} {i : Nat} {x : α} (h : l[i]? = some x) : l.drop i = x :: l.drop (i + 1) := by
  obtain ⟨h1, e⟩ := List.getElem?_eq_some_iff.mp h
  rw [← e]
  exact List.drop_eq_getElem_cons h1
theorem get_lt {α : Type} {l : List α} {i : Nat} (h : i < l.length) : l[i]? = some l[i] := List.getElem?_eq_getElem h
theorem cutN_one {α : Type} (l : List α) (k : Nat) : cutN l (some (k : Int)) (some ((k : Int) + 1)) = (l.drop k).take 1 := cutN_both l k 1
theorem cut_two (l : List Nat) (i : Nat) : cutN l (some ((i : Int) + 1)) (some ((i : Int) + 3)) = (l.drop (i + 1)).take 2 := cutN_both l (i + 1) 2
theorem cellAt_cut (ns : List Int) (k : Nat) : (((ns.map V.int).drop k).take 1 ++ [V.int 0])[0]? = some (V.int (cellAt ns k)) := by
  unfold cellAt
  cases h : ns[k]? with
  | none =>
    have hk : ns.length ≤ k := List.getElem?_eq_none_iff.mp h
    rw [List.drop_of_length_le (by simpa using hk), List.getD_eq_getElem?_getD, h]
    rfl
  | some x =>
    have h' : (ns.map V.int)[k]? = some (V.int x) := by
      rw [List.getElem?_map, h]
      rfl
    rw [drop_at h', List.getD_eq_getElem?_getD, h]
    rfl
end Pw

/-! Comprehensions read. -/
namespace Pw
open PySem PySem.Spec PyProof.Rows L2
section
variable {K : PySem.W.Frag}
theorem i_lc {wi : TI} {g : TG} {tt : TT} {te : TE} {vs : List Nat} {σ : L2.St} {H : Hp} {Q : VK} (h : wi σ H fun J H1 => ∀ D, H1 D = none → ∃ W : Nat → Nat → Hp → Prop, (∃ m, W 0 m (upd H1 D (.lst []))) ∧ ∀ i m H, W i m H →
    (J.stop i H ∧ Q (.ref D) H) ∨ (J.go i H ∧ ∃ Nx : Hp → Prop, (∀ H', Nx H' → ∃ m', m' < m ∧ W (i + 1) m' H') ∧ ∀ x H', J.yld i H x H' → g x (wipe σ vs) H' fun σ2 H2 => wipe σ2 vs = wipe σ vs ∧ tt σ2 H2 fun b H3 =>
      if b = true then te σ2 H3 fun y H4 => ∃ acc, H4 D = some (.lst acc) ∧ acc.length < sizeLine ∧ Nx (upd H4 D (.lst (acc ++ [y]))) else Nx H3)) : tLc wi g tt te vs σ H Q := h
/-- over a range, each element by a relation, no object made -/
theorem lc_rangeR {n i : Nat} {te : TE} {vs : List Nat} {σ : L2.St} {H1 : Hp} {D : Addr} {Qd : Hp → Prop} (R : Nat → V → Prop) (hD : H1 D = none) (hn : n ≤ 900000) (hw : ∀ x, wipe ((wipe σ vs).set i (some x)) vs = wipe σ vs)
    (he : ∀ k H, k < n → Same H1 H → ∀ Q : VK, (∀ y, R k y → Q y H) → te ((wipe σ vs).set i (some (.int (k : Int)))) H Q)
    (hd : ∀ ys : List V, ys.length = n → (∀ (k : Nat) y, ys[k]? = some y → R k y) → Qd (upd H1 D (.lst ys))) :
    ∃ W : Nat → Nat → Hp → Prop, (∃ m, W 0 m (upd H1 D (.lst []))) ∧ ∀ i' m H, W i' m H →
      ((Itr 0 n).stop i' H ∧ Qd H) ∨ ((Itr 0 n).go i' H ∧ ∃ Nx : Hp → Prop, (∀ H', Nx H' → ∃ m', m' < m ∧ W (i' + 1) m' H') ∧ ∀ x H', (Itr 0 n).yld i' H x H' → gName i x (wipe σ vs) H' fun σ2 H2 => wipe σ2 vs = wipe σ vs ∧ tYes σ2 H2 fun b H3 =>
        if b = true then te σ2 H3 fun y H4 => ∃ acc, H4 D = some (.lst acc) ∧ acc.length < sizeLine ∧ Nx (upd H4 D (.lst (acc ++ [y]))) else Nx H3) := by
  refine lc_range (fun k H => ∃ ys : List V, ys.length = k ∧ (∀ (j : Nat) y, ys[j]? = some y → R j y) ∧ H = upd H1 D (.lst ys)) ⟨[], rfl, fun j y h => by simp at h, rfl⟩ ?_ ?_
  · rintro k H hk ⟨ys, hl, hR, rfl⟩
    refine ⟨hw _, ?_⟩
    unfold tYes
    refine iteT ?_
    rw [Int.zero_add]
    refine he k _ hk (same_new hD) _ fun y hy => ?_
    refine ⟨ys, upd_same, to_lineL (by omega), ys ++ [y], by simp [hl], fun j z hz => ?_, by rw [upd_upd]⟩
    by_cases hj : j < ys.length
    · rw [List.getElem?_append_left hj] at hz
      exact hR j z hz
    · rw [List.getElem?_append_right (by omega)] at hz
      have : j = ys.length := by
        have := (List.getElem?_eq_some_iff.mp hz).1
        simp at this
        omega
      subst this
      simp at hz
      subst hz
      rw [hl]
      exact hy
  · rintro H ⟨ys, hl, hR, rfl⟩
    exact hd ys hl hR
/-- .. each element by a function -/
theorem lc_rangeF {n i : Nat} {te : TE} {vs : List Nat} {σ : L2.St} {H1 : Hp} {D : Addr} {Qd : Hp → Prop} (f : Nat → V) (hD : H1 D = none) (hn : n ≤ 900000) (hw : ∀ x, wipe ((wipe σ vs).set i (some x)) vs = wipe σ vs)
    (he : ∀ k H, k < n → Same H1 H → ∀ Q : VK, Q (f k) H → te ((wipe σ vs).set i (some (.int (k : Int)))) H Q)
    (hd : Qd (upd H1 D (.lst ((List.range n).map f)))) :
    ∃ W : Nat → Nat → Hp → Prop, (∃ m, W 0 m (upd H1 D (.lst []))) ∧ ∀ i' m H, W i' m H →
      ((Itr 0 n).stop i' H ∧ Qd H) ∨ ((Itr 0 n).go i' H ∧ ∃ Nx : Hp → Prop, (∀ H', Nx H' → ∃ m', m' < m ∧ W (i' + 1) m' H') ∧ ∀ x H', (Itr 0 n).yld i' H x H' → gName i x (wipe σ vs) H' fun σ2 H2 => wipe σ2 vs = wipe σ vs ∧ tYes σ2 H2 fun b H3 =>
        if b = true then te σ2 H3 fun y H4 => ∃ acc, H4 D = some (.lst acc) ∧ acc.length < sizeLine ∧ Nx (upd H4 D (.lst (acc ++ [y]))) else Nx H3) := by
  refine lc_rangeR (fun k y => y = f k) hD hn hw (fun k H hk hs Q q => he k H hk hs Q (q _ rfl)) fun ys hl hR => ?_
  have e : ys = (List.range n).map f := by
    refine List.ext_getElem? fun k => ?_
    rw [List.getElem?_map]
    by_cases hk : k < n
    · rw [List.getElem?_range hk, List.getElem?_eq_getElem (by omega)]
      exact congrArg some (hR k _ (List.getElem?_eq_getElem (by omega)))
    · rw [List.getElem?_eq_none (by omega), List.getElem?_eq_none (by simpa using hk)]
      rfl
  rw [e]
  exact hd
/-- over a list -/
theorem lc_listR {a : Addr} {xs : List V} {i : Nat} {te : TE} {vs : List Nat} {σ : L2.St} {H1 : Hp} {D : Addr} {Qd : Hp → Prop} (R : V → V → Prop) (hD : H1 D = none) (hS : SqL K H1 a xs) (hn : xs.length ≤ 900000) (hw : ∀ x, wipe ((wipe σ vs).set i (some x)) vs = wipe σ vs)
    (he : ∀ (k : Nat) x H, xs[k]? = some x → Same H1 H → ∀ Q : VK, (∀ y, R x y → Q y H) → te ((wipe σ vs).set i (some x)) H Q)
    (hd : ∀ ys : List V, Paired R xs ys → Qd (upd H1 D (.lst ys))) :
    ∃ W : Nat → Nat → Hp → Prop, (∃ m, W 0 m (upd H1 D (.lst []))) ∧ ∀ i' m H, W i' m H →
      ((Itl K a).stop i' H ∧ Qd H) ∨ ((Itl K a).go i' H ∧ ∃ Nx : Hp → Prop, (∀ H', Nx H' → ∃ m', m' < m ∧ W (i' + 1) m' H') ∧ ∀ x H', (Itl K a).yld i' H x H' → gName i x (wipe σ vs) H' fun σ2 H2 => wipe σ2 vs = wipe σ vs ∧ tYes σ2 H2 fun b H3 =>
        if b = true then te σ2 H3 fun y H4 => ∃ acc, H4 D = some (.lst acc) ∧ acc.length < sizeLine ∧ Nx (upd H4 D (.lst (acc ++ [y]))) else Nx H3) := by
  have snoc : ∀ {as bs : List V} {x y : V}, Paired R as bs → R x y → Paired R (as ++ [x]) (bs ++ [y]) := by
    intro as bs x y h r
    induction h with
    | nil => exact .cons r .nil
    | cons r1 _ ih => exact .cons r1 ih
  refine lc_list (K := K) (a := a) (xs := xs) (fun k H => ∃ ys : List V, Paired R (xs.take k) ys ∧ H = upd H1 D (.lst ys)) ⟨[], .nil, rfl⟩ (fun k H _ hh => ?_) ?_ ?_
  · obtain ⟨ys, _, rfl⟩ := hh
    exact (same_new hD).seq hS
  · rintro k x H hx ⟨ys, hR, rfl⟩
    refine ⟨hw _, ?_⟩
    unfold tYes
    refine iteT ?_
    refine he k x _ hx (same_new hD) _ fun y hy => ?_
    have hl : ys.length ≤ xs.length := by
      have := Paired.length hR
      rw [List.length_take] at this
      omega
    refine ⟨ys, upd_same, to_lineL (by omega), ys ++ [y], ?_, by rw [upd_upd]⟩
    rw [List.take_add_one, hx]
    exact snoc hR hy
  · rintro H ⟨ys, hR, rfl⟩
    rw [List.take_length] at hR
    exact hd ys hR
theorem lc_listF {a : Addr} {xs : List V} {i : Nat} {te : TE} {vs : List Nat} {σ : L2.St} {H1 : Hp} {D : Addr} {Qd : Hp → Prop} (f : V → V) (hD : H1 D = none) (hS : SqL K H1 a xs) (hn : xs.length ≤ 900000) (hw : ∀ x, wipe ((wipe σ vs).set i (some x)) vs = wipe σ vs)
    (he : ∀ (k : Nat) x H, xs[k]? = some x → Same H1 H → ∀ Q : VK, Q (f x) H → te ((wipe σ vs).set i (some x)) H Q)
    (hd : Qd (upd H1 D (.lst (xs.map f)))) :
    ∃ W : Nat → Nat → Hp → Prop, (∃ m, W 0 m (upd H1 D (.lst []))) ∧ ∀ i' m H, W i' m H →
      ((Itl K a).stop i' H ∧ Qd H) ∨ ((Itl K a).go i' H ∧ ∃ Nx : Hp → Prop, (∀ H', Nx H' → ∃ m', m' < m ∧ W (i' + 1) m' H') ∧ ∀ x H', (Itl K a).yld i' H x H' → gName i x (wipe σ vs) H' fun σ2 H2 => wipe σ2 vs = wipe σ vs ∧ tYes σ2 H2 fun b H3 =>
        if b = true then te σ2 H3 fun y H4 => ∃ acc, H4 D = some (.lst acc) ∧ acc.length < sizeLine ∧ Nx (upd H4 D (.lst (acc ++ [y]))) else Nx H3) := by
  refine lc_listR (fun x y => y = f x) hD hS hn hw (fun k x H hx hs Q q => he k x H hx hs Q (q _ rfl)) fun ys hR => ?_
  have e : ∀ {as bs : List V}, Paired (fun x y => y = f x) as bs → bs = as.map f := by
    intro as bs h
    induction h with
    | nil => rfl
    | cons r1 _ ih => rw [r1, ih]; rfl
  rw [e hR]
  exact hd
end
theorem iteNT {A B : Prop} (h : B) : if (!true) = true then A else B := h
theorem iteNF {A B : Prop} (h : A) : if (!false) = true then A else B := h
theorem iteNR {α : Type} {a : α} {A B : Prop} {d : Decidable (a = a)} (h : B) : if (!(@decide (a = a) d)) = true then A else B := by
  rw [decide_eq_true rfl]
  exact h
theorem iteER {α : Type} {a : α} {A B : Prop} {d : Decidable (a = a)} (h : A) : if (@decide (a = a) d) = true then A else B := by
  rw [decide_eq_true rfl]
  exact h
theorem paired_strs {R : V → V → Prop} {P : List Nat → Prop} (hR : ∀ x y, R x y → ∃ l : List Nat, y = vS l ∧ P l) : ∀ {xs ys : List V}, Paired R xs ys → ∃ ps : List (List Nat), ys = ps.map vS ∧ ps.length = xs.length ∧ ∀ p ∈ ps, P p := by
  intro xs ys h
  induction h with
  | nil => exact ⟨[], rfl, rfl, by simp⟩
  | cons r _ ih =>
    obtain ⟨ps, rfl, hl, hp⟩ := ih
    obtain ⟨l, rfl, hP⟩ := hR _ _ r
    refine ⟨l :: ps, rfl, by simp [hl], fun p hp' => ?_⟩
    rcases List.mem_cons.mp hp' with rfl | h
    · exact hP
    · exact hp p h
theorem sumL_le {n : Nat} : ∀ {ps : List (List Nat)}, (∀ p ∈ ps, p.length ≤ n) → sumL ps ≤ n * ps.length
  | [], _ => by simp [sumL]
  | p :: r, h => by
    have ih := sumL_le (ps := r) fun q hq => h q (List.mem_cons_of_mem _ hq)
    have h1 := h p List.mem_cons_self
    unfold sumL at ih ⊢
    rw [List.map_cons, List.sum_cons, List.length_cons, Nat.mul_add]
    omega
theorem flatten_len (ps : List (List Nat)) : ps.flatten.length = sumL ps := by
  rw [List.length_flatten]
  rfl
/-! what is known of the classes of exceptions -/
structure FxB (K : PySem.W.Frag) (C : Ad) : Prop where
  eB : ExcC K C.B
  m_B_P : PySem.W.exmOne K (.ref C.B) (.ref C.P) = some true
  m_B_B : PySem.W.exmOne K (.ref C.B) (.ref C.B) = some true
  k_B_B : PySem.W.kitOne K (.ref C.B) (.ref C.B) = some true
  k_B_V : PySem.W.kitOne K (.ref C.B) (.type "ValueError") = some true
section
variable {K : PySem.W.Frag} {H : Hp} {Q : VK}
theorem i_try {tb : WX → TS} {wf : Ends → WX} {D : Ends} {σ : L2.St} (h : tb (wf D) D σ H) : tTry tb wf D σ H := h
theorem i_isEO {a D c : Addr} {b : Bool} (hC : ExcC K D) (hk : PySem.W.kitOne K (.ref D) (.ref c) = some b) (q : Q (.bl b) H) : qIsE K a (.ref D) none [.ref a, .ref c] H Q := ⟨D, .ref c, .ref c, b, rfl, rfl, hC, rfl, fun u r => r, hk, q⟩
theorem i_isET {a D : Addr} {T : String} {b : Bool} (hC : ExcC K D) (hk : PySem.W.kitOne K (.ref D) (.type T) = some b) (q : Q (.bl b) H) : qIsE K a (.ref D) none [.ref a, .ty T] H Q := ⟨D, .ty T, .type T, b, rfl, rfl, hC, rfl, fun u r => r, hk, q⟩
theorem i_wAs {c cls : Value} {i : Nat} {ts : Addr → Value → Option Addr → TS} {Wout : WX} {D : Ends} {σ : L2.St} (hm : PySem.W.exmOne K cls c = some true)
    (h : ∀ a, H a = none → ts a cls none { nx := fun σ' H' => D.nx (σ'.set i none) H', rt := D.rt, bk := fun σ' H' => D.bk (σ'.set i none) H', ct := fun σ' H' => D.ct (σ'.set i none) H' } (σ.set i (some (.ref a))) H) : wAs K c i ts Wout D cls none σ H := ⟨true, hm, fun _ => h, fun z => nomatch z⟩
theorem i_wOnly {c cls : Value} {ts : Addr → Value → Option Addr → TS} {Wout : WX} {D : Ends} {σ : L2.St} (hm : PySem.W.exmOne K cls c = some true)
    (h : ∀ a, H a = none → ts a cls none D σ H) : wOnly K c ts Wout D cls none σ H := ⟨true, hm, fun _ => h, fun z => nomatch z⟩
end
end Pw

/-! Comparing lists and tuples of texts; kinds of values. -/
namespace Pw
open PySem PySem.Spec PyProof.Rows L2
/-- signs that a text may hold -/
def Cps (l : List Nat) : Prop := ∀ c ∈ l, c < 1114112
theorem cps_named {l : List Nat} (h : Named l) : Cps l := fun c hc => by
  have : ∀ c ∈ signs, c < 1114112 := by decide
  exact this c (h c hc)
def dT (l : List Nat) : PyData := .str (S l)
theorem dT_lay {l : List Nat} (h : Cps l) : (dT l).canLay0 = true := by
  show PyData.strOk (S l) = true
  show (S l).cps.all (fun c => decide (c < 0x110000)) = true
  rw [Array.all_eq_true']
  intro c hc
  exact decide_eq_true (h c (Array.mem_toList_iff.mpr hc))
def allIn (P : List Nat → Prop) (xs : List (List Nat)) : Prop := ∀ l ∈ xs, P l
theorem lay_all : ∀ {xs : List (List Nat)}, (∀ l ∈ xs, Cps l) → PyData.canLayAll0 (xs.map dT) = true
  | [], _ => rfl
  | l :: r, h => by
    show (PyData.canLay0 (dT l) && PyData.canLayAll0 (r.map dT)) = true
    rw [dT_lay (h l List.mem_cons_self), lay_all fun m hm => h m (List.mem_cons_of_mem _ hm)]
    rfl
theorem dep_all : ∀ (xs : List (List Nat)), PyData.depthAll (xs.map dT) = 0
  | [] => rfl
  | l :: r => by
    show max (PyData.depth (dT l)) (PyData.depthAll (r.map dT)) = 0
    rw [dep_all r]
    rfl
theorem eqv_T (a b : List Nat) : PyData.eqv (dT a) (dT b) = decide (a = b) := by
  show (S a == S b) = _
  by_cases h : a = b
  · rw [h, decide_eq_true rfl]
    exact beq_self_eq_true _
  · rw [decide_eq_false h]
    exact beq_eq_false_iff_ne.mpr fun e => h (S_inj e)
theorem eqv_all : ∀ (xs ys : List (List Nat)), PyData.eqvAll (xs.map dT) (ys.map dT) = decide (xs = ys)
  | [], [] => rfl
  | [], _ :: _ => rfl
  | _ :: _, [] => rfl
  | a :: xs, b :: ys => by
    show (PyData.eqv (dT a) (dT b) && PyData.eqvAll (xs.map dT) (ys.map dT)) = _
    rw [eqv_T, eqv_all xs ys]
    by_cases h : a = b
    · by_cases h2 : xs = ys <;> simp [h, h2]
    · simp [h]
def dL (xs : List (List Nat)) : PyData := .list (xs.map dT)
def dU (xs : List (List Nat)) : PyData := .tuple (xs.map dT)
theorem shaped_L {xs : List (List Nat)} (h : ∀ l ∈ xs, Cps l) : SeqAt.shaped (dL xs) = true := by
  have e1 : PyData.canLay0 (dL xs) = true := lay_all h
  have e2 : PyData.depth (dL xs) = 1 := by
    show PyData.depthAll (xs.map dT) + 1 = 1
    rw [dep_all]
  unfold SeqAt.shaped
  rw [e1, e2]
  rfl
theorem shaped_U {xs : List (List Nat)} (h : ∀ l ∈ xs, Cps l) : SeqAt.shaped (dU xs) = true := by
  have e1 : PyData.canLay0 (dU xs) = true := lay_all h
  have e2 : PyData.depth (dU xs) = 1 := by
    show PyData.depthAll (xs.map dT) + 1 = 1
    rw [dep_all]
  unfold SeqAt.shaped
  rw [e1, e2]
  rfl
def dLL (xs : List (List (List Nat))) : PyData := .list (xs.map dL)
theorem lay_LL : ∀ {xs : List (List (List Nat))}, (∀ ls ∈ xs, ∀ l ∈ ls, Cps l) → PyData.canLayAll0 (xs.map dL) = true
  | [], _ => rfl
  | l :: r, h => by
    show (PyData.canLay0 (dL l) && PyData.canLayAll0 (r.map dL)) = true
    have e1 : PyData.canLay0 (dL l) = true := lay_all (h l List.mem_cons_self)
    rw [e1, lay_LL fun m hm => h m (List.mem_cons_of_mem _ hm)]
    rfl
theorem dep_LL : ∀ (xs : List (List (List Nat))), PyData.depthAll (xs.map dL) ≤ 1
  | [] => Nat.zero_le _
  | l :: r => by
    show max (PyData.depth (dL l)) (PyData.depthAll (r.map dL)) ≤ 1
    have e2 : PyData.depth (dL l) = 1 := by
      show PyData.depthAll (l.map dT) + 1 = 1
      rw [dep_all]
    have := dep_LL r
    omega
theorem shaped_LL {xs : List (List (List Nat))} (h : ∀ ls ∈ xs, ∀ l ∈ ls, Cps l) : SeqAt.shaped (dLL xs) = true := by
  have e1 : PyData.canLay0 (dLL xs) = true := lay_LL h
  have e2 : PyData.depth (dLL xs) ≤ 64 := by
    show PyData.depthAll (xs.map dL) + 1 ≤ 64
    have := dep_LL xs
    omega
  unfold SeqAt.shaped
  rw [e1, decide_eq_true e2]
  rfl
theorem eqv_LL : ∀ (xs ys : List (List (List Nat))), PyData.eqvAll (xs.map dL) (ys.map dL) = decide (xs = ys)
  | [], [] => rfl
  | [], _ :: _ => rfl
  | _ :: _, [] => rfl
  | a :: xs, b :: ys => by
    show (PyData.eqvAll (a.map dT) (b.map dT) && PyData.eqvAll (xs.map dL) (ys.map dL)) = _
    rw [eqv_all, eqv_LL xs ys]
    by_cases h : a = b
    · by_cases h2 : xs = ys <;> simp [h, h2]
    · simp [h]
section
variable {K : PySem.W.Frag} {H : Hp} {Q : VK}
theorem dp_all : ∀ (xs : List (List Nat)), DpAll K H (xs.map vS) (xs.map dT)
  | [] => .nil
  | l :: r => .cons (.str _) (dp_all r)
theorem i_eqLL {a b : Addr} {xs ys : List (List Nat)} (h1 : SqL K H a (xs.map vS)) (h2 : SqL K H b (ys.map vS)) (c1 : ∀ l ∈ xs, Cps l) (c2 : ∀ l ∈ ys, Cps l) (q : Q (.bl (decide (xs = ys))) H) : rEqD K (.ref a) (.ref b) H Q := by
  refine ⟨dL xs, dL ys, .lst h1 (dp_all _), .lst h2 (dp_all _), shaped_L c1, shaped_L c2, ?_⟩
  show Q (.bl (PyData.eqvAll (xs.map dT) (ys.map dT))) H
  rw [eqv_all]
  exact q
theorem i_neLL {a b : Addr} {xs ys : List (List Nat)} (h1 : SqL K H a (xs.map vS)) (h2 : SqL K H b (ys.map vS)) (c1 : ∀ l ∈ xs, Cps l) (c2 : ∀ l ∈ ys, Cps l) (q : Q (.bl (!decide (xs = ys))) H) : rNeD K (.ref a) (.ref b) H Q := by
  refine ⟨dL xs, dL ys, .lst h1 (dp_all _), .lst h2 (dp_all _), shaped_L c1, shaped_L c2, ?_⟩
  show Q (.bl (!PyData.eqvAll (xs.map dT) (ys.map dT))) H
  rw [eqv_all]
  exact q
theorem i_neUU {a b : Addr} {xs ys : List (List Nat)} (h1 : SqT K H a (xs.map vS)) (h2 : SqT K H b (ys.map vS)) (c1 : ∀ l ∈ xs, Cps l) (c2 : ∀ l ∈ ys, Cps l) (q : Q (.bl (!decide (xs = ys))) H) : rNeD K (.ref a) (.ref b) H Q := by
  refine ⟨dU xs, dU ys, .tup h1 (dp_all _), .tup h2 (dp_all _), shaped_U c1, shaped_U c2, ?_⟩
  show Q (.bl (!PyData.eqvAll (xs.map dT) (ys.map dT))) H
  rw [eqv_all]
  exact q
/-- a list of lists of texts -/
def LL (K : PySem.W.Frag) (H : Hp) (vs : List V) (xs : List (List (List Nat))) : Prop := Paired (fun v ls => ∃ a, v = .ref a ∧ SqL K H a (ls.map vS)) vs xs
theorem dp_LL {vs : List V} {xs : List (List (List Nat))} (h : LL K H vs xs) : DpAll K H vs (xs.map dL) := by
  induction h with
  | nil => exact .nil
  | cons r _ ih =>
    obtain ⟨a, rfl, h⟩ := r
    exact .cons (.lst h (dp_all _)) ih
theorem i_neLLL {a b : Addr} {us vs : List V} {xs ys : List (List (List Nat))} (h1 : SqL K H a us) (h2 : SqL K H b vs) (l1 : LL K H us xs) (l2 : LL K H vs ys) (c1 : ∀ ls ∈ xs, ∀ l ∈ ls, Cps l) (c2 : ∀ ls ∈ ys, ∀ l ∈ ls, Cps l)
    (q : Q (.bl (!decide (xs = ys))) H) : rNeD K (.ref a) (.ref b) H Q := by
  refine ⟨dLL xs, dLL ys, .lst h1 (dp_LL l1), .lst h2 (dp_LL l2), shaped_LL c1, shaped_LL c2, ?_⟩
  show Q (.bl (!PyData.eqvAll (xs.map dL) (ys.map dL))) H
  rw [eqv_LL]
  exact q
/-! kinds -/
theorem i_isLst {a : Addr} {xs : List V} (h : H a = some (.lst xs)) (q : Q (.bl true) H) : rIsi K [.ref a, .ty "list"] H Q := ⟨_, _, .type "list", .type "list", true, rfl, .ty _, .base (.lst h), kit_ty (by decide +kernel), q⟩
theorem i_isTup {a : Addr} {xs : List V} (h : SqT K H a xs) (q : Q (.bl true) H) : rIsi K [.ref a, .ty "tuple"] H Q := by
  have t : TyX K H (.ref a) (.type "tuple") := by
    rcases h with (h | ⟨o, h⟩) | ⟨o, its, n, e, c, _⟩
    · exact .base (.tup h)
    · exact .fTuple h
    · exact .kTuple e c
  exact ⟨_, _, .type "tuple", .type "tuple", true, rfl, .ty _, t, kit_ty (by decide +kernel), q⟩
theorem i_isBl {b : Bool} (q : Q (.bl true) H) : rIsi K [.bl b, .ty "bool"] H Q := ⟨_, _, .type "bool", .type "bool", true, rfl, .ty _, .base (.bl b), kit_ty (by decide +kernel), q⟩
theorem i_all {a : Addr} {bs : List Bool} (h : SqL K H a (bs.map V.bl)) (q : Q (.bl (bs.all id)) H) : rAll K [.ref a] H Q := ⟨a, bs, rfl, h, q⟩
theorem i_any {a : Addr} {bs : List Bool} (h : SqL K H a (bs.map V.bl)) (q : Q (.bl (bs.any id)) H) : rAny K [.ref a] H Q := ⟨a, bs, rfl, h, q⟩
theorem i_itup {tl : TE} {σ : L2.St} {R : It → Hp → Prop} (h : tl σ H fun x H1 => ∃ a, x = .ref a ∧ (∃ xs, SqT K H1 a xs) ∧ R (Itt K a) H1) : iTup K tl σ H R := h
/-- a comprehension over a tuple, each element by a function -/
theorem lc_tupF {a : Addr} {xs : List V} {i : Nat} {te : TE} {vs : List Nat} {σ : L2.St} {H1 : Hp} {D : Addr} {Qd : Hp → Prop} (f : V → V) (hD : H1 D = none) (hS : SqT K H1 a xs) (hn : xs.length ≤ 900000) (hw : ∀ x, wipe ((wipe σ vs).set i (some x)) vs = wipe σ vs)
    (he : ∀ (k : Nat) x H, xs[k]? = some x → Same H1 H → ∀ Q : VK, Q (f x) H → te ((wipe σ vs).set i (some x)) H Q)
    (hd : Qd (upd H1 D (.lst (xs.map f)))) :
    ∃ W : Nat → Nat → Hp → Prop, (∃ m, W 0 m (upd H1 D (.lst []))) ∧ ∀ i' m H, W i' m H →
      ((Itt K a).stop i' H ∧ Qd H) ∨ ((Itt K a).go i' H ∧ ∃ Nx : Hp → Prop, (∀ H', Nx H' → ∃ m', m' < m ∧ W (i' + 1) m' H') ∧ ∀ x H', (Itt K a).yld i' H x H' → gName i x (wipe σ vs) H' fun σ2 H2 => wipe σ2 vs = wipe σ vs ∧ tYes σ2 H2 fun b H3 =>
        if b = true then te σ2 H3 fun y H4 => ∃ acc, H4 D = some (.lst acc) ∧ acc.length < sizeLine ∧ Nx (upd H4 D (.lst (acc ++ [y]))) else Nx H3) := by
  refine lc_tup (K := K) (a := a) (xs := xs) (fun k H => H = upd H1 D (.lst ((xs.take k).map f))) rfl (fun k H _ hh => ?_) ?_ ?_
  · subst hh
    exact Same.sqt (same_new hD) hS
  · rintro k x H hx rfl
    refine ⟨hw _, ?_⟩
    unfold tYes
    refine iteT ?_
    refine he k x _ hx (same_new hD) _ ?_
    refine ⟨_, upd_same, to_lineL ?_, ?_⟩
    · rw [List.length_map, List.length_take]
      omega
    · rw [upd_upd, List.take_add_one, hx]
      simp
  · rintro H rfl
    rw [List.take_length]
    exact hd
end
end Pw

/-! Plain facts: parts written in any way, lines of parts. -/
namespace Pw
open PySem PySem.Spec PyProof.Rows L2
theorem i_mk {xs : List V} {A : Prop} (h : xs.length ≤ 1000000) (q : A) : xs.length ≤ sizeLine ∧ A := ⟨to_line h, q⟩
theorem ints_of {ys : List V} : (∀ (k : Nat) (y : V), ys[k]? = some y → ∃ c, y = .int c) → ∃ cs : List Int, ys = cs.map V.int := by
  intro h
  have h' : ∀ y ∈ ys, ∃ c, y = .int c := fun y hy => by
    obtain ⟨k, hk⟩ := List.mem_iff_getElem?.mp hy
    exact h k y hk
  clear h
  induction ys with
  | nil => exact ⟨[], rfl⟩
  | cons y r ih =>
    obtain ⟨c, rfl⟩ := h' y List.mem_cons_self
    obtain ⟨cs, rfl⟩ := ih fun z hz => h' z (List.mem_cons_of_mem _ hz)
    exact ⟨c :: cs, rfl⟩
/-- what is written of the name's first i signs -/
structure PB (n f : List Nat) (i : Nat) : Prop where
  tells : ∀ r, nameOf (f ++ r) = (nameOf r).map (n.take i ++ ·)
  free : 47 ∉ f
  len : f.length ≤ 3 * i
  hd : f.head? ≠ some 64
  ne : 0 < i → f ≠ []
theorem PB.zero (n : List Nat) : PB n [] 0 := ⟨fun r => by simp, by simp, by simp, by simp, fun h => absurd h (by simp)⟩
theorem take_snoc {α : Type} {n : List α} {i : Nat} {c : α} (h : n[i]? = some c) : n.take (i + 1) = n.take i ++ [c] := by
  rw [List.take_add_one, h]
  rfl
theorem PB.put3 {n f : List Nat} {i c : Nat} (h : PB n f i) (hc : n[i]? = some c) (hs : Sign c) : PB n (f ++ esc c) (i + 1) where
  tells := fun r => by
    rw [List.append_assoc, h.tells, nameOf_escC hs, Option.map_map, take_snoc hc]
    congr 1
    funext m
    simp
  free := fun hm => by
    rcases List.mem_append.mp hm with q | q
    · exact h.free q
    · exact esc_free hs q
  len := by
    have := h.len
    simp [Pw.esc]
    omega
  hd := by
    have := h.hd
    cases f with
    | nil => simp [Pw.esc]
    | cons a t => simpa using this
  ne := fun _ e => by
    have := congrArg List.length e
    simp [Pw.esc] at this
theorem PB.put {n f : List Nat} {i c : Nat} (h : PB n f i) (hc : n[i]? = some c) (h1 : c ≠ 47) (h2 : c ≠ 126) (h3 : i = 0 → c ≠ 64) : PB n (f ++ [c]) (i + 1) where
  tells := fun r => by
    rw [List.append_assoc, h.tells]
    show (nameOf (c :: r)).map _ = _
    rw [nameOf_plain h2, Option.map_map, take_snoc hc]
    congr 1
    funext m
    simp
  free := fun hm => by
    rcases List.mem_append.mp hm with q | q
    · exact h.free q
    · exact h1 (List.mem_singleton.mp q).symm
  len := by
    have := h.len
    simp
    omega
  hd := by
    have := h.hd
    cases f with
    | nil =>
      have hi : i = 0 := by
        by_cases hz : 0 < i
        · exact absurd rfl (h.ne hz)
        · omega
      simp
      exact h3 hi
    | cons a t => simpa using this
  ne := fun _ e => by
    have := congrArg List.length e
    simp at this
theorem PB.done {n f : List Nat} (h : PB n f n.length) (h1 : f ≠ [46]) (h2 : f ≠ [46, 46]) : Part n f where
  tells := by
    have := h.tells []
    rw [List.append_nil, List.take_length] at this
    rw [this]
    simp [nameOf]
  free := h.free
  plain := fun hn => ⟨h.ne (List.length_pos_iff.mpr hn), h1, h2, h.hd⟩
  len := by
    have := h.len
    omega
theorem PB.dots {n f : List Nat} (h : PB n f n.length) (h1 : f = [46] ∨ f = [46, 46]) : Part n (Pw.esc 46 ++ f.drop 1) := by
  have t := h.tells []
  rw [List.append_nil, List.take_length] at t
  have t' : nameOf f = some n := by
    rw [t]
    simp [nameOf]
  rcases h1 with rfl | rfl
  · have : n = [46] := by
      have e : nameOf [46] = some [46] := by decide
      rw [e] at t'
      exact (Option.some.inj t').symm
    subst this
    exact ⟨by decide, by decide, fun _ => ⟨by decide, by decide, by decide, by decide⟩, by decide⟩
  · have : n = [46, 46] := by
      have e : nameOf [46, 46] = some [46, 46] := by decide
      rw [e] at t'
      exact (Option.some.inj t').symm
    subst this
    exact ⟨by decide, by decide, fun _ => ⟨by decide, by decide, by decide, by decide⟩, by decide⟩
theorem nameOf_raw : ∀ {n : List Nat}, 126 ∉ n → nameOf n = some n
  | [], _ => by simp [nameOf]
  | c :: r, h => by
    have hc : c ≠ 126 := fun e => h (by rw [e]; exact List.mem_cons_self)
    rw [nameOf_plain hc, nameOf_raw fun m => h (List.mem_cons_of_mem _ m)]
    rfl
theorem joinS_len : ∀ ps : List (List Nat), (joinS ps).length ≤ sumL ps + ps.length
  | [] => Nat.zero_le _
  | [x] => by
    show x.length ≤ (x.length + 0) + 1
    omega
  | x :: y :: r => by
    have ih := joinS_len (y :: r)
    have e : sumL (x :: y :: r) = x.length + sumL (y :: r) := rfl
    rw [e]
    simp only [joinS, List.length_append, List.length_cons] at ih ⊢
    omega
theorem stepsP_snoc {ps : List (List Nat)} {p : List Nat} {s t : List Step} (h : stepsP ps = some s) (h2 : stepOf p = some t) : stepsP (ps ++ [p]) = some (s ++ t) := by
  rw [stepsP_append, h]
  show (stepsP [p]).map (s ++ ·) = _
  rw [stepsP, h2]
  simp [stepsP]
theorem steps_join {ps : List (List Nat)} {ss : List Step} (h : stepsP ps = some ss) (hf : ∀ p ∈ ps, 47 ∉ p) : stepsOf (joinS ps) = some (rootOf (joinS ps) ++ ss) := by
  by_cases e : ps = []
  · subst e
    rw [stepsP] at h
    cases h
    decide
  · rw [stepsOf, split_join e hf, h]
    rfl
theorem stepOf_dots : stepOf [46, 46] = some [.up] := by decide
theorem stepOf_none : stepOf [] = some [] := by decide
theorem stepOf_dot : stepOf [46] = some [] := by decide
theorem take_one (l : List Nat) : (decide (l.take 1 = [47])) = (decide (l.head? = some 47)) := by
  cases l with
  | nil => rfl
  | cons a r => simp
theorem rootOf_yes {l : List Nat} (h : l.take 1 = [47]) : rootOf l = [.root] := by
  cases l with
  | nil => simp at h
  | cons a r =>
    have : a = 47 := by simpa using h
    simp [rootOf, this]
theorem rootOf_no {l : List Nat} (h : ¬ l.take 1 = [47]) : rootOf l = [] := by
  cases l with
  | nil => rfl
  | cons a r =>
    have : a ≠ 47 := by simpa using h
    simp [rootOf, this]
theorem cutN_t1 {α : Type} (l : List α) : cutN l none (some 1) = l.take 1 := cutN_to l 1
theorem cutN_1 {α : Type} (l : List α) : cutN l (some 1) none = l.drop 1 := cutN_from l 1
theorem drop1_len {α : Type} (l : List α) : (l.drop 1).length ≤ l.length := by
  rw [List.length_drop]
  omega
/-! the two lists that grow -/
section
variable {K : PySem.W.Frag}
structure PI (K : PySem.W.Frag) (H H' : Hp) (P S : Addr) (names ps : List (List Nat)) (us : List V) (ss : List Step) (i : Nat) : Prop where
  same : Same H H'
  np : H P = none
  ns : H S = none
  ne : P ≠ S
  hp : H' P = some (.lst (ps.map vS))
  hs : H' S = some (.lst us)
  at_ : Paired (StepAt K H') us ss
  st : stepsP ps = some ss
  lp : ps.length = i
  ls : ss.length ≤ i
  fr : ∀ p ∈ ps, 47 ∉ p ∧ p.length ≤ 132
  ok : ∀ s ∈ ss, StepOk names s
variable {H H' : Hp} {P S : Addr} {names ps : List (List Nat)} {us : List V} {ss : List Step} {i : Nat}
theorem PI.other {q : Addr} {o : HO} (I : PI K H H' P S names ps us ss i) (h : H' q = none) : PI K H (upd H' q o) P S names ps us ss i :=
  { I with same := Same.new I.same h, hp := lk I.hp h, hs := lk I.hs h, at_ := paired_mono (fun _ _ r => r.same (same_new h)) I.at_ }
theorem map_snoc (ps : List (List Nat)) (p : List Nat) : ps.map vS ++ [vS p] = (ps ++ [p]).map vS := by simp
theorem fr_snoc {ps : List (List Nat)} {p : List Nat} (h : ∀ p ∈ ps, 47 ∉ p ∧ p.length ≤ 132) (h1 : 47 ∉ p) (h2 : p.length ≤ 132) : ∀ q ∈ ps ++ [p], 47 ∉ q ∧ q.length ≤ 132 := fun q hq => by
  rcases List.mem_append.mp hq with z | z
  · exact h q z
  · rw [List.mem_singleton.mp z]
    exact ⟨h1, h2⟩
theorem PI.part {p : List Nat} (I : PI K H H' P S names ps us ss i) (h : stepOf p = some []) (h1 : 47 ∉ p) (h2 : p.length ≤ 132) : PI K H (upd H' P (.lst (ps.map vS ++ [vS p]))) P S names (ps ++ [p]) us ss (i + 1) where
  same := Same.mut I.same I.np
  np := I.np
  ns := I.ns
  ne := I.ne
  hp := by rw [upd_same, map_snoc]
  hs := by
    rw [upd_ne (fun e => I.ne e.symm)]
    exact I.hs
  at_ := paired_mono (fun _ _ r => r.upd I.hp) I.at_
  st := by
    have := stepsP_snoc I.st h
    rwa [List.append_nil] at this
  lp := by
    rw [List.length_append, I.lp]
    rfl
  ls := Nat.le_succ_of_le I.ls
  fr := fr_snoc I.fr h1 h2
  ok := I.ok
theorem PI.step {p : List Nat} {s : Step} {t : Addr} (I : PI K H H' P S names ps us ss i) (h : stepOf p = some [s]) (h1 : 47 ∉ p) (h2 : p.length ≤ 132) (hs : StepOk names s) (ht : upd H' P (.lst (ps.map vS ++ [vS p])) t = none) :
    PI K H (upd (upd (upd H' P (.lst (ps.map vS ++ [vS p]))) t (.tup (stepV s))) S (.lst (us ++ [.ref t]))) P S names (ps ++ [p]) (us ++ [.ref t]) (ss ++ [s]) (i + 1) := by
  have e1 : upd H' P (.lst (ps.map vS ++ [vS p])) S = some (.lst us) := by
    rw [upd_ne (fun e => I.ne e.symm)]
    exact I.hs
  have e2 : upd (upd H' P (.lst (ps.map vS ++ [vS p]))) t (.tup (stepV s)) S = some (.lst us) := lk e1 ht
  have s1 : Same H (upd (upd H' P (.lst (ps.map vS ++ [vS p]))) t (.tup (stepV s))) := Same.new (Same.mut I.same I.np) ht
  exact {
    same := Same.mut s1 I.ns
    np := I.np
    ns := I.ns
    ne := I.ne
    hp := by
      rw [upd_ne I.ne]
      refine lk ?_ ht
      rw [upd_same, map_snoc]
    hs := upd_same
    at_ := by
      refine paired_app (paired_mono (fun _ _ r => ((r.upd I.hp).same (same_new ht)).upd e2) I.at_) (.cons ?_ .nil)
      exact ⟨t, rfl, sqt_upd e2 (SqT.of upd_same)⟩
    st := stepsP_snoc I.st h
    lp := by
      rw [List.length_append, I.lp]
      rfl
    ls := by
      have := I.ls
      simp
      omega
    fr := fr_snoc I.fr h1 h2
    ok := fun s' hs' => by
      rcases List.mem_append.mp hs' with z | z
      · exact I.ok s' z
      · rw [List.mem_singleton.mp z]
        exact hs }
end
end Pw

/-! Dicts with texts as keys. -/
namespace Pw
open PySem PySem.Spec PyProof.Rows L2
/-! ### tables -/
section
variable {β : Type}
def look (l : List (List Nat × β)) (n : List Nat) : Option β := (l.find? fun p => decide (p.1 = n)).map Prod.snd
def keys (l : List (List Nat × β)) : List (List Nat) := l.map Prod.fst
theorem look_nil (n : List Nat) : look ([] : List (List Nat × β)) n = none := rfl
theorem look_pos {p : List Nat × β} {r : List (List Nat × β)} {n : List Nat} (h : p.1 = n) : look (p :: r) n = some p.2 := by simp [look, List.find?_cons, h]
theorem look_neg {p : List Nat × β} {r : List (List Nat × β)} {n : List Nat} (h : p.1 ≠ n) : look (p :: r) n = look r n := by simp [look, List.find?_cons, h]
theorem look_none {l : List (List Nat × β)} {n : List Nat} : look l n = none ↔ n ∉ keys l := by
  induction l with
  | nil => simp [look, keys]
  | cons p r ih =>
    by_cases h : p.1 = n
    · rw [look_pos h]
      simp [keys, h]
    · rw [look_neg h, ih]
      simp [keys]
      intro _ e
      exact h e.symm
theorem look_mem {l : List (List Nat × β)} {n : List Nat} {b : β} (h : look l n = some b) : (n, b) ∈ l := by
  induction l with
  | nil => cases h
  | cons p r ih =>
    by_cases e : p.1 = n
    · rw [look_pos e] at h
      cases h
      rw [← e]
      exact List.mem_cons_self
    · rw [look_neg e] at h
      exact List.mem_cons_of_mem _ (ih h)
theorem look_of_mem {l : List (List Nat × β)} {n : List Nat} {b : β} (hn : (keys l).Nodup) (h : (n, b) ∈ l) : look l n = some b := by
  induction l with
  | nil => cases h
  | cons p r ih =>
    have hn' : p.1 ∉ keys r ∧ (keys r).Nodup := List.nodup_cons.mp hn
    rcases List.mem_cons.mp h with e | h
    · rw [← e]
      exact look_pos rfl
    · have ne : p.1 ≠ n := fun e => hn'.1 (by rw [e]; exact List.mem_map.mpr ⟨(n, b), h, rfl⟩)
      rw [look_neg ne]
      exact ih hn'.2 h
theorem look_some_of_key {l : List (List Nat × β)} {n : List Nat} (h : n ∈ keys l) : ∃ b, look l n = some b := by
  cases e : look l n with
  | none => exact absurd h (look_none.mp e)
  | some b => exact ⟨b, rfl⟩
theorem look_app {l r : List (List Nat × β)} {n : List Nat} : look (l ++ r) n = (match look l n with | some b => some b | none => look r n) := by
  induction l with
  | nil => rfl
  | cons p t ih =>
    rw [List.cons_append]
    by_cases e : p.1 = n
    · rw [look_pos e, look_pos e]
    · rw [look_neg e, look_neg e, ih]
theorem look_snoc {l : List (List Nat × β)} {n m : List Nat} {b c : β} (h : look (l ++ [(n, b)]) m = some c) : look l m = some c ∨ (m = n ∧ c = b) := by
  rw [look_app] at h
  cases e : look l m with
  | some x =>
    rw [e] at h
    exact .inl h
  | none =>
    rw [e] at h
    by_cases z : n = m
    · rw [look_pos (p := (n, b)) z] at h
      cases h
      exact .inr ⟨z.symm, rfl⟩
    · rw [look_neg (p := (n, b)) z] at h
      cases h
theorem keys_app (l r : List (List Nat × β)) : keys (l ++ r) = keys l ++ keys r := by simp [keys]
theorem keys_len (l : List (List Nat × β)) : (keys l).length = l.length := by simp [keys]
theorem keys_snoc_nodup {l : List (List Nat × β)} {n : List Nat} {b : β} (h : (keys l).Nodup) (hn : n ∉ keys l) : (keys (l ++ [(n, b)])).Nodup := by
  rw [keys_app]
  refine List.nodup_append.mpr ⟨h, by simp [keys], fun a ha c hc => ?_⟩
  have : c = n := by simpa [keys] using hc
  rw [this]
  intro e
  exact hn (by rw [← e]; exact ha)
end
def kS (n : List Nat) : Key := .inr (S n)
theorem kS_inj {a b : List Nat} (h : kS a = kS b) : a = b := S_inj (Sum.inr.inj h)
/-- the dict's pairs, one by one -/
def Rows {β : Type} (R : V → β → Prop) (kvs : List (Key × V)) (l : List (List Nat × β)) : Prop := Paired (fun kv row => kv.1 = kS row.1 ∧ R kv.2 row.2) kvs l
section
variable {β : Type} {R : V → β → Prop}
theorem Rows.look {kvs : List (Key × V)} {l : List (List Nat × β)} (h : Rows R kvs l) {n : List Nat} {b : β} (e : look l n = some b) : ∃ v, valV kvs (kS n) = some v ∧ R v b := by
  induction h with
  | nil => cases e
  | cons r t ih =>
    rename_i kv row kvs l
    by_cases z : row.1 = n
    · rw [look_pos z] at e
      cases e
      exact ⟨kv.2, valV_pos (by rw [r.1, z]), r.2⟩
    · rw [look_neg z] at e
      obtain ⟨v, h1, h2⟩ := ih e
      exact ⟨v, by rw [valV_neg (by rw [r.1]; exact fun q => z (kS_inj q))]; exact h1, h2⟩
theorem Rows.none {kvs : List (Key × V)} {l : List (List Nat × β)} (h : Rows R kvs l) {n : List Nat} (e : Pw.look l n = none) : valV kvs (kS n) = none := by
  induction h with
  | nil => rfl
  | cons r t ih =>
    rename_i kv row kvs l
    by_cases z : row.1 = n
    · rw [look_pos z] at e
      cases e
    · rw [look_neg z] at e
      rw [valV_neg (by rw [r.1]; exact fun q => z (kS_inj q))]
      exact ih e
theorem Rows.isSome {kvs : List (Key × V)} {l : List (List Nat × β)} (h : Rows R kvs l) (n : List Nat) : (valV kvs (kS n)).isSome = decide (n ∈ keys l) := by
  cases e : Pw.look l n with
  | none =>
    rw [h.none e, decide_eq_false (look_none.mp e)]
    rfl
  | some b =>
    obtain ⟨v, h1, _⟩ := h.look e
    have hm : n ∈ keys l := List.mem_map.mpr ⟨_, look_mem e, rfl⟩
    rw [h1, decide_eq_true hm]
    rfl
theorem Rows.put {kvs : List (Key × V)} {l : List (List Nat × β)} (h : Rows R kvs l) {n : List Nat} {v : V} {b : β} (e : n ∉ keys l) (r : R v b) : Rows R (putK kvs (kS n) v) (l ++ [(n, b)]) := by
  have ha : (kvs.any fun kv => decide (kv.1 = kS n)) = false := by
    rw [valV_any, h.none (look_none.mpr e)]
    rfl
  unfold putK
  rw [ha, if_neg Bool.false_ne_true]
  exact paired_app h (.cons ⟨rfl, r⟩ .nil)
def swap (l : List (List Nat × β)) (n : List Nat) (b : β) : List (List Nat × β) := l.map fun p => if p.1 = n then (p.1, b) else p
theorem Rows.swap {kvs : List (Key × V)} {l : List (List Nat × β)} (h : Rows R kvs l) {n : List Nat} {v : V} {b : β} (e : n ∈ keys l) (r : R v b) : Rows R (putK kvs (kS n) v) (swap l n b) := by
  have ha : (kvs.any fun kv => decide (kv.1 = kS n)) = true := by
    rw [valV_any, h.isSome, decide_eq_true e]
  unfold putK
  rw [ha, if_pos rfl]
  clear e ha
  induction h with
  | nil => exact .nil
  | cons q t ih =>
    rename_i kv row kvs l
    refine .cons ?_ ih
    dsimp only
    by_cases z : row.1 = n
    · rw [if_pos z, if_pos (by rw [q.1, z])]
      exact ⟨q.1, r⟩
    · rw [if_neg z, if_neg (by rw [q.1]; exact fun w => z (kS_inj w))]
      exact q
theorem Rows.get {kvs : List (Key × V)} {l : List (List Nat × β)} (h : Rows R kvs l) {i : Nat} {k : Key} {v : V} (e : kvs[i]? = some (k, v)) : ∃ n b, l[i]? = some (n, b) ∧ k = kS n ∧ R v b := by
  obtain ⟨⟨n, b⟩, h1, h2, h3⟩ := paired_get h e
  exact ⟨n, b, h1, h2, h3⟩
theorem Rows.keys {kvs : List (Key × V)} {l : List (List Nat × β)} (h : Rows R kvs l) : kvs.map (fun kv => kV kv.1) = (keys l).map vS := by
  induction h with
  | nil => rfl
  | cons r t ih =>
    rename_i kv row kvs l
    rw [List.map_cons, ih, r.1]
    rfl
theorem Rows.mono {R' : V → β → Prop} (hR : ∀ v b, R v b → R' v b) {kvs : List (Key × V)} {l : List (List Nat × β)} (h : Rows R kvs l) : Rows R' kvs l := paired_mono (fun _ _ r => ⟨r.1, hR _ _ r.2⟩) h
end
/-- a dict that stands at a, locked or not -/
def DictAt {β : Type} (R : Hp → V → β → Prop) (H : Hp) (a : Addr) (l : List (List Nat × β)) : Prop := ∃ kvs, Rd H a (.dK kvs) ∧ Rows (R H) kvs l
/-- .. not locked -/
def DictM {β : Type} (R : Hp → V → β → Prop) (H : Hp) (a : Addr) (l : List (List Nat × β)) : Prop := ∃ kvs, H a = some (.dK kvs) ∧ Rows (R H) kvs l
/-- R keeps where the heap only grows -/
def Grows {β : Type} (R : Hp → V → β → Prop) : Prop := ∀ H H' v b, Same H H' → R H v b → R H' v b
def txtR : Hp → V → List Nat → Prop := fun _ v l => v = vS l
theorem txtR_grows : Grows txtR := fun _ _ _ _ _ h => h
def placeR (H : Hp) (v : V) (pl : List (List Nat)) : Prop := ∃ p, v = .ref p ∧ H p = some (.lst (pl.map vS))
theorem placeR_grows : Grows placeR := fun _ _ _ _ s ⟨p, e, h⟩ => ⟨p, e, s _ _ h⟩
def stepsR (K : PySem.W.Frag) (H : Hp) (v : V) (ss : List Step) : Prop := ∃ p, v = .ref p ∧ Steps K H p ss
theorem stepsR_grows {K : PySem.W.Frag} : Grows (stepsR K) := fun _ _ _ _ s ⟨p, e, h⟩ => ⟨p, e, h.same s⟩
section
variable {K : PySem.W.Frag} {β : Type} {R : Hp → V → β → Prop} {H H' : Hp} {a : Addr} {l : List (List Nat × β)} {Q : VK}
theorem DictM.at (h : DictM R H a l) : DictAt R H a l := by
  obtain ⟨kvs, h1, h2⟩ := h
  exact ⟨kvs, .inl h1, h2⟩
theorem rd_same {u : HO} (s : Same H H') (h : Rd H a u) : Rd H' a u := by
  rcases h with h | ⟨o, h⟩
  · exact .inl (s _ _ h)
  · exact .inr ⟨o, s _ _ h⟩
theorem DictAt.same (hR : Grows R) (s : Same H H') (h : DictAt R H a l) : DictAt R H' a l := by
  obtain ⟨kvs, h1, h2⟩ := h
  exact ⟨kvs, rd_same s h1, h2.mono fun v b => hR H H' v b s⟩
theorem DictM.same (hR : Grows R) (s : Same H H') (h : DictM R H a l) : DictM R H' a l := by
  obtain ⟨kvs, h1, h2⟩ := h
  exact ⟨kvs, s _ _ h1, h2.mono fun v b => hR H H' v b s⟩
/-! reading -/
theorem i_get {n : List Nat} {b : β} {P : V → Prop} (h : DictAt R H a l) (e : look l n = some b) (q : ∀ v, R H v b → P v) : ∃ a' v, V.ref a = .ref a' ∧ DGet H a' (vS n) (some v) ∧ P v := by
  obtain ⟨kvs, h1, h2⟩ := h
  obtain ⟨v, e1, r⟩ := h2.look e
  exact ⟨a, v, rfl, .inl ⟨kvs, kS n, h1, rfl, e1.symm⟩, q v r⟩
theorem i_has {n : List Nat} {P : Option V → Prop} (h : DictAt R H a l) (q : ∀ o, o.isSome = decide (n ∈ keys l) → P o) : ∃ a' o, V.ref a = .ref a' ∧ DGet H a' (vS n) o ∧ P o := by
  obtain ⟨kvs, h1, h2⟩ := h
  exact ⟨a, _, rfl, .inl ⟨kvs, kS n, h1, rfl, rfl⟩, q _ (h2.isSome n)⟩
theorem i_put {n : List Nat} {v : V} {kvs : List (Key × V)} {N : Hp → Prop} (h : H a = some (.dK kvs)) (hl : kvs.length < 1000000) (q : N (upd H a (.dK (putK kvs (kS n) v)))) : ∃ a' H4, V.ref a = .ref a' ∧ DPut H a' (vS n) v H4 ∧ N H4 :=
  ⟨a, _, rfl, .inl ⟨kvs, kS n, h, rfl, to_lineL hl, rfl⟩, q⟩
theorem DictM.len (h : DictM R H a l) : ∃ kvs, H a = some (.dK kvs) ∧ kvs.length = l.length ∧ Rows (R H) kvs l := by
  obtain ⟨kvs, h1, h2⟩ := h
  exact ⟨kvs, h1, paired_len h2, h2⟩
theorem i_dget {td ty : TE} {σ : L2.St} (h : td σ H fun x H1 => ty σ H1 fun y H2 => ∃ a v, x = .ref a ∧ DGet H2 a y (some v) ∧ Q v H2) : tDGet td ty σ H Q := h
theorem i_din {td ty : TE} {σ : L2.St} (h : ty σ H fun y H1 => td σ H1 fun x H2 => ∃ a o, x = .ref a ∧ DGet H2 a y o ∧ Q (.bl o.isSome) H2) : tDIn ty td σ H Q := h
theorem i_dnin {td ty : TE} {σ : L2.St} (h : ty σ H fun y H1 => td σ H1 fun x H2 => ∃ a o, x = .ref a ∧ DGet H2 a y o ∧ Q (.bl (!o.isSome)) H2) : tDNotIn ty td σ H Q := h
theorem i_dput {td ty tv : TE} {D : Ends} {σ : L2.St} (h : tv σ H fun v H1 => td σ H1 fun x H2 => ty σ H2 fun y H3 => ∃ a H4, x = .ref a ∧ DPut H3 a y v H4 ∧ D.nx σ H4) : sDPut td ty tv D σ H := h
theorem i_dnew {σ : L2.St} (h : ∀ p, H p = none → Q (.ref p) (upd H p (.dK []))) : tDNewK σ H Q := h
theorem i_fld {ta : TE} {f : Str} {σ : L2.St} (h : ta σ H fun x H1 => ∃ a C dx fs v, x = .ref a ∧ H1 a = some (.ins C dx fs) ∧ Cls K C ∧ NoAttr K C f ∧ fs.lookup f = some v ∧ Q v H1) : tFld K ta f σ H Q := h
theorem i_sfld {ta tv : TE} {f : Str} {D : Ends} {σ : L2.St} (h : tv σ H fun y H1 => ta σ H1 fun x H2 => ∃ a C dx fs, x = .ref a ∧ H2 a = some (.ins C dx fs) ∧ Cls K C ∧ NoAttr K C f ∧ fs.length < 1000 ∧ D.nx σ (upd H2 a (.ins C dx (putF f y fs)))) : sFld K ta tv f D σ H := h
/-! list(dict), len(dict) -/
def qListD : List V → Hp → VK → Prop := fun xs H Q => ∃ (a : Addr) (ns : List (List Nat)), xs = [.ref a] ∧ (∃ kvs, Rd H a (.dK kvs) ∧ kvs.map (fun kv => kV kv.1) = ns.map vS) ∧ ∀ p, H p = none → Q (.ref p) (upd H p (.lst (ns.map vS)))
theorem call_listDS {X : Cx} (hc : X.calm = true) : CallR X (.type "list") qListD := callI (call_listD hc) (by
  rintro vs H Q ⟨a, ns, rfl, ⟨kvs, h1, h2⟩, q⟩
  exact ⟨a, kvs, rfl, h1, by rw [h2]; exact q⟩)
theorem i_listD (h : DictAt R H a l) (q : ∀ p, H p = none → Q (.ref p) (upd H p (.lst ((keys l).map vS)))) : qListD [.ref a] H Q := by
  obtain ⟨kvs, h1, h2⟩ := h
  exact ⟨a, keys l, rfl, ⟨kvs, h1, h2.keys⟩, q⟩
end
/-! walks over locked dicts -/
section
variable {β : Type} {R : Hp → V → β → Prop} {H : Hp} {d : Addr} {l : List (List Nat × β)}
theorem same_unlock {H H' : Hp} {d : Addr} {o : Obj} {u : HO} (hd : H d = some u) (s : Same (upd H d (.frz o u)) H') : Same H (upd H' d u) := fun b x e => by
  by_cases z : b = d
  · rw [z, hd] at e
    rw [z, upd_same]
    exact e
  · rw [upd_ne z]
    exact s b x (by rw [upd_ne z]; exact e)
theorem upd_none_ne {H : Hp} {d q : Addr} {o : HO} (h : upd H d o q = none) : q ≠ d := fun z => by
  rw [z, upd_same] at h
  cases h
/-- for name in dict: -/
theorem for_keysD {td : TE} {g : TG} {tb : TS} {D : Ends} {σ : L2.St} {kvs : List (Key × V)} (ht : ∀ H (Q : VK), Q (.ref d) H → td σ H Q) (h : H d = some (.dK kvs)) (hR : Rows (R H) kvs l) (Pv : Nat → L2.St → Hp → Prop)
    (h0 : ∀ od, Pv 0 σ (upd H d (.frz od (.dK kvs)))) 
    (hs : ∀ od i n b σ H', l[i]? = some (n, b) → Pv i σ H' → H' d = some (.frz od (.dK kvs)) → g (vS n) σ H' fun σ2 H2 => tb ⟨fun σ' H' => Pv (i + 1) σ' H' ∧ H' d = some (.frz od (.dK kvs)), fun v H' => H' d = some (.frz od (.dK kvs)) ∧ D.rt v (upd H' d (.dK kvs)), fun σ' H' => H' d = some (.frz od (.dK kvs)) ∧ D.nx σ' (upd H' d (.dK kvs)), fun σ' H' => Pv (i + 1) σ' H' ∧ H' d = some (.frz od (.dK kvs))⟩ σ2 H2)
    (hd : ∀ od σ H', Pv l.length σ H' → H' d = some (.frz od (.dK kvs)) → D.nx σ (upd H' d (.dK kvs))) :
    tLock (tFor (iKeys td) g tb) D σ H := by
  refine ⟨d, .dK kvs, h, trivial, fun od => ?_⟩
  refine i_for ?_
  refine ht _ _ ?_
  refine ⟨d, od, rfl, .inl ⟨kvs, upd_same, ?_⟩⟩
  have hlen := paired_len hR
  refine for_it walk_keys (fun i σ H' => Pv i σ H' ∧ H' d = some (.frz od (.dK kvs))) ⟨h0 od, upd_same⟩ (fun i σ H' _ p => p.2) ?_ ?_
  · rintro i x σ H1 H' hi ⟨p, e⟩ ⟨rfl, k, v, hk, rfl⟩
    obtain ⟨n, b, h1, rfl, _⟩ := hR.get hk
    exact hs od i n b σ H' h1 p e
  · rintro σ' H' ⟨p, e⟩
    rw [hlen] at p
    exact ⟨e, hd od σ' H' p e⟩
/-- for name, value in dict.items(): -/
theorem for_itemsD {td : TE} {g : TG} {tb : TS} {D : Ends} {σ : L2.St} {kvs : List (Key × V)} (ht : ∀ H (Q : VK), Q (.ref d) H → td σ H Q) (h : H d = some (.dK kvs)) (hR : Rows (R H) kvs l) (Pv : Nat → L2.St → Hp → Prop)
    (h0 : ∀ od, Pv 0 σ (upd H d (.frz od (.dK kvs))))
    (hs : ∀ od i n b v σ H' T, l[i]? = some (n, b) → R H v b → Pv i σ H' → H' d = some (.frz od (.dK kvs)) → H' T = none → g (.ref T) σ (upd H' T (.tup [vS n, v])) fun σ2 H2 => tb ⟨fun σ' H' => Pv (i + 1) σ' H' ∧ H' d = some (.frz od (.dK kvs)), fun v H' => H' d = some (.frz od (.dK kvs)) ∧ D.rt v (upd H' d (.dK kvs)), fun σ' H' => H' d = some (.frz od (.dK kvs)) ∧ D.nx σ' (upd H' d (.dK kvs)), fun σ' H' => Pv (i + 1) σ' H' ∧ H' d = some (.frz od (.dK kvs))⟩ σ2 H2)
    (hd : ∀ od σ H', Pv l.length σ H' → H' d = some (.frz od (.dK kvs)) → D.nx σ (upd H' d (.dK kvs))) :
    tLock (tFor (iItems td) g tb) D σ H := by
  refine ⟨d, .dK kvs, h, trivial, fun od => ?_⟩
  refine i_for ?_
  refine ht _ _ ?_
  refine ⟨d, od, kvs, rfl, upd_same, ?_⟩
  have hlen := paired_len hR
  refine for_it walk_items (fun i σ H' => Pv i σ H' ∧ H' d = some (.frz od (.dK kvs))) ⟨h0 od, upd_same⟩ (fun i σ H' _ p => p.2) ?_ ?_
  · rintro i x σ H1 H' hi ⟨p, e⟩ ⟨T, y, z, rfl, hT, rfl, hy, hz⟩
    obtain ⟨kv, hkv⟩ : ∃ kv, kvs[i]? = some kv := ⟨_, get_lt hi⟩
    obtain ⟨k, v⟩ := kv
    dsimp only at hy hz
    rw [hkv] at hy hz
    cases hy
    cases hz
    obtain ⟨n, b, h1, rfl, r⟩ := hR.get hkv
    exact hs od i n b v σ H1 T h1 r p e hT
  · rintro σ' H' ⟨p, e⟩
    rw [hlen] at p
    exact ⟨e, hd od σ' H' p e⟩
end
theorem iteLF {a b : List Nat} {A B : Prop} (h : a ≠ b) (q : B) : if decide (a = b) = true then A else B := by
  rw [decide_eq_false h]
  exact q
theorem iteLT {a b : List Nat} {A B : Prop} (h : a = b) (q : A) : if decide (a = b) = true then A else B := by
  rw [decide_eq_true h]
  exact q
section
variable {K : PySem.W.Frag} {H0 H : Hp} {p : Addr} {g : TG} {tb : TS} {D : Ends} {σ : L2.St}
/-- for step in steps: -/
theorem for_steps {ss : List Step} (hS : Steps K H0 p ss) (Pv : Nat → L2.St → Hp → Prop) (h0 : Pv 0 σ H) (hsame : ∀ i σ H', Pv i σ H' → Same H0 H')
    (hs : ∀ i s a σ H', ss[i]? = some s → Pv i σ H' → SqT K H' a (stepV s) → g (.ref a) σ H' fun σ2 H2 => tb { D with nx := Pv (i + 1), ct := Pv (i + 1), bk := D.nx } σ2 H2) (hd : ∀ σ H', Pv ss.length σ H' → D.nx σ H') :
    ∃ a, V.ref p = .ref a ∧ (∃ xs, SqL K H a xs) ∧ ∃ W : Nat → Nat → L2.St → Hp → Prop, (∃ m, W 0 m σ H) ∧ ∀ i m σ H, W i m σ H →
      ((Itl K a).stop i H ∧ D.nx σ H) ∨ ((Itl K a).go i H ∧ ∃ N : L2.St → Hp → Prop, (∀ σ' H', N σ' H' → ∃ m', m' < m ∧ W (i + 1) m' σ' H') ∧ ∀ x H', (Itl K a).yld i H x H' → g x σ H' fun σ2 H2 => tb { D with nx := N, ct := N, bk := D.nx } σ2 H2) := by
  obtain ⟨us, hp, hat⟩ := hS
  have hlen := paired_len hat
  refine ⟨p, rfl, ⟨us, SqL.of (hsame _ _ _ h0 _ _ hp)⟩, ?_⟩
  refine for_list (xs := us) Pv h0 (fun i σ H' _ q => SqL.of (hsame _ _ _ q _ _ hp)) ?_ (fun σ H' q => hd σ H' (by rw [hlen] at q; exact q))
  intro i x σ H' hx q
  obtain ⟨s, hs1, r⟩ := paired_get hat hx
  obtain ⟨a, rfl, ha⟩ := r.same (hsame _ _ _ q)
  exact hs i s a σ H' hs1 q ha
/-- for text in texts: -/
theorem for_texts {ns : List (List Nat)} (Pv : Nat → L2.St → Hp → Prop) (h0 : Pv 0 σ H) (hS : ∀ i σ H', Pv i σ H' → SqL K H' p (ns.map vS))
    (hs : ∀ i n σ H', ns[i]? = some n → Pv i σ H' → g (vS n) σ H' fun σ2 H2 => tb { D with nx := Pv (i + 1), ct := Pv (i + 1), bk := D.nx } σ2 H2) (hd : ∀ σ H', Pv ns.length σ H' → D.nx σ H') :
    ∃ a, V.ref p = .ref a ∧ (∃ xs, SqL K H a xs) ∧ ∃ W : Nat → Nat → L2.St → Hp → Prop, (∃ m, W 0 m σ H) ∧ ∀ i m σ H, W i m σ H →
      ((Itl K a).stop i H ∧ D.nx σ H) ∨ ((Itl K a).go i H ∧ ∃ N : L2.St → Hp → Prop, (∀ σ' H', N σ' H' → ∃ m', m' < m ∧ W (i + 1) m' σ' H') ∧ ∀ x H', (Itl K a).yld i H x H' → g x σ H' fun σ2 H2 => tb { D with nx := N, ct := N, bk := D.nx } σ2 H2) := by
  refine ⟨p, rfl, ⟨_, hS _ _ _ h0⟩, ?_⟩
  refine for_list (xs := ns.map vS) Pv h0 (fun i σ H' _ q => hS _ _ _ q) ?_ (fun σ H' q => hd σ H' (by rw [List.length_map] at q; exact q))
  intro i x σ H' hx q
  rw [List.getElem?_map] at hx
  cases e : ns[i]? with
  | none =>
    rw [e] at hx
    cases hx
  | some n =>
    rw [e] at hx
    cases hx
    exact hs i n σ H' e q
/-- [f(m) for m in texts] -/
theorem lc_strF {ms : List (List Nat)} {i : Nat} {te : TE} {vs : List Nat} {H1 : Hp} {D : Addr} {Qd : Hp → Prop} (f : List Nat → V) (hD : H1 D = none) (hS : SqL K H1 p (ms.map vS)) (hn : ms.length ≤ 900000) (hw : ∀ x, wipe ((wipe σ vs).set i (some x)) vs = wipe σ vs)
    (he : ∀ m H, m ∈ ms → Same H1 H → ∀ Q : VK, Q (f m) H → te ((wipe σ vs).set i (some (vS m))) H Q)
    (hd : Qd (upd H1 D (.lst (ms.map f)))) :
    ∃ W : Nat → Nat → Hp → Prop, (∃ m, W 0 m (upd H1 D (.lst []))) ∧ ∀ i' m H, W i' m H →
      ((Itl K p).stop i' H ∧ Qd H) ∨ ((Itl K p).go i' H ∧ ∃ Nx : Hp → Prop, (∀ H', Nx H' → ∃ m', m' < m ∧ W (i' + 1) m' H') ∧ ∀ x H', (Itl K p).yld i' H x H' → gName i x (wipe σ vs) H' fun σ2 H2 => wipe σ2 vs = wipe σ vs ∧ tYes σ2 H2 fun b H3 =>
        if b = true then te σ2 H3 fun y H4 => ∃ acc, H4 D = some (.lst acc) ∧ acc.length < sizeLine ∧ Nx (upd H4 D (.lst (acc ++ [y]))) else Nx H3) := by
  refine lc_listR (fun x y => ∀ m, x = vS m → y = f m) hD hS (by rw [List.length_map]; exact hn) hw (fun k x H hx hs Q q => ?_) fun ys hR => ?_
  · obtain ⟨m, hm, rfl⟩ := List.mem_map.mp (List.mem_of_getElem? hx)
    exact he m H hm hs Q (q _ fun m' e => by rw [vS_inj e])
  · have e : ∀ {ms : List (List Nat)} {ys : List V}, Paired (fun x y => ∀ m, x = vS m → y = f m) (ms.map vS) ys → ys = ms.map f := by
      intro ms
      induction ms with
      | nil =>
        intro ys h
        cases h
        rfl
      | cons m r ih =>
        intro ys h
        cases h with
        | cons h1 h2 => rw [ih h2, h1 m rfl]; rfl
    rw [e hR]
    exact hd
end
end Pw

/-! Places, tables of shares: plain facts. -/
namespace Pw
open PySem PySem.Spec PyProof.Rows L2
abbrev Place := List (List Nat)
def stepP (pl : List Nat → Option Place) : Step → Place → Option Place
  | .root, _ => some []
  | .up, p => some p.dropLast
  | .share n, _ => pl n
  | .name n, p => some (p ++ [n])
def walkP (pl : List Nat → Option Place) : List Step → Place → Option Place
  | [], p => some p
  | s :: r, p => (stepP pl s p).bind (walkP pl r)
def sharesOf : List Step → List (List Nat)
  | [] => []
  | .share n :: r => n :: sharesOf r
  | .root :: r => sharesOf r
  | .up :: r => sharesOf r
  | .name _ :: r => sharesOf r
theorem sharesOf_mem {n : List Nat} : ∀ {ss : List Step}, n ∈ sharesOf ss ↔ Step.share n ∈ ss
  | [] => by simp [sharesOf]
  | s :: r => by
    have ih := sharesOf_mem (n := n) (ss := r)
    cases s <;> simp [sharesOf, ih]
theorem sharesOf_app : ∀ (a b : List Step), sharesOf (a ++ b) = sharesOf a ++ sharesOf b
  | [], b => rfl
  | s :: r, b => by
    have ih := sharesOf_app r b
    cases s <;> simp [sharesOf, ih]
theorem walkP_app (pl : List Nat → Option Place) : ∀ (a b : List Step) (p : Place), walkP pl (a ++ b) p = (walkP pl a p).bind (walkP pl b)
  | [], b, p => rfl
  | s :: a, b, p => by
    show (stepP pl s p).bind (walkP pl (a ++ b)) = ((stepP pl s p).bind (walkP pl a)).bind (walkP pl b)
    cases stepP pl s p with
    | none => rfl
    | some q => exact walkP_app pl a b q
theorem walkP_take {pl : List Nat → Option Place} {ss : List Step} {i : Nat} {s : Step} {p q : Place} (h : ss[i]? = some s) (e : walkP pl (ss.take i) p = some q) : walkP pl (ss.take (i + 1)) p = stepP pl s q := by
  rw [take_snoc h, walkP_app, e]
  show (stepP pl s q).bind (walkP pl []) = _
  cases stepP pl s q <;> rfl
theorem stepP_mono {pl pl' : List Nat → Option Place} (h : ∀ n p, pl n = some p → pl' n = some p) {s : Step} {p q : Place} (e : stepP pl s p = some q) : stepP pl' s p = some q := by
  cases s with
  | root => exact e
  | up => exact e
  | share n => exact h n q e
  | name n => exact e
theorem walkP_mono {pl pl' : List Nat → Option Place} (h : ∀ n p, pl n = some p → pl' n = some p) : ∀ {ss : List Step} {p q : Place}, walkP pl ss p = some q → walkP pl' ss p = some q
  | [], _, _, e => e
  | s :: r, p, q, e => by
    obtain ⟨z, h1, h2⟩ := Option.bind_eq_some_iff.mp e
    show (stepP pl' s p).bind (walkP pl' r) = some q
    rw [stepP_mono h h1]
    exact walkP_mono h h2
theorem walkP_congr {pl pl' : List Nat → Option Place} : ∀ {ss : List Step} {p : Place}, (∀ n ∈ sharesOf ss, pl n = pl' n) → walkP pl ss p = walkP pl' ss p
  | [], _, _ => rfl
  | s :: r, p, h => by
    have h1 : stepP pl s p = stepP pl' s p := by
      cases s with
      | root => rfl
      | up => rfl
      | share n => exact h n (by simp [sharesOf])
      | name n => rfl
    show (stepP pl s p).bind (walkP pl r) = (stepP pl' s p).bind (walkP pl' r)
    rw [h1]
    cases stepP pl' s p with
    | none => rfl
    | some q =>
      refine walkP_congr fun n hn => h n ?_
      cases s <;> simp [sharesOf, hn]
theorem walkP_some {pl : List Nat → Option Place} : ∀ {ss : List Step} (p : Place), (∀ n ∈ sharesOf ss, ∃ q, pl n = some q) → ∃ q, walkP pl ss p = some q
  | [], p, _ => ⟨p, rfl⟩
  | s :: r, p, h => by
    have h1 : ∃ q, stepP pl s p = some q := by
      cases s with
      | root => exact ⟨_, rfl⟩
      | up => exact ⟨_, rfl⟩
      | share n => exact h n (by simp [sharesOf])
      | name n => exact ⟨_, rfl⟩
    obtain ⟨q, h1⟩ := h1
    obtain ⟨z, h2⟩ := walkP_some (ss := r) q fun n hn => h n (by cases s <;> simp [sharesOf, hn])
    exact ⟨z, by show (stepP pl s p).bind (walkP pl r) = some z; rw [h1]; exact h2⟩
theorem walkP_shares {pl : List Nat → Option Place} : ∀ {ss : List Step} {p q : Place}, walkP pl ss p = some q → ∀ n ∈ sharesOf ss, ∃ z, pl n = some z
  | [], _, _, _, n, hn => by cases hn
  | s :: r, p, q, e, n, hn => by
    obtain ⟨z, h1, h2⟩ := Option.bind_eq_some_iff.mp e
    cases s with
    | share m =>
      rcases List.mem_cons.mp hn with rfl | hn
      · exact ⟨z, h1⟩
      · exact walkP_shares h2 n hn
    | root => exact walkP_shares h2 n hn
    | up => exact walkP_shares h2 n hn
    | name m => exact walkP_shares h2 n hn
theorem stepP_len {pl : List Nat → Option Place} {B : Nat} (hB : ∀ n p, pl n = some p → p.length ≤ B) {s : Step} {p q : Place} {k : Nat} (hp : p.length ≤ B + k) (e : stepP pl s p = some q) : q.length ≤ B + (k + 1) := by
  cases s with
  | root =>
    cases e
    exact Nat.zero_le _
  | up =>
    cases e
    rw [List.length_dropLast]
    omega
  | share n =>
    have := hB n q e
    omega
  | name n =>
    cases e
    rw [List.length_append]
    show p.length + 1 ≤ _
    omega
theorem walkP_len {pl : List Nat → Option Place} {B : Nat} (hB : ∀ n p, pl n = some p → p.length ≤ B) : ∀ {ss : List Step} {p q : Place} {k : Nat}, p.length ≤ B + k → walkP pl ss p = some q → q.length ≤ B + (k + ss.length)
  | [], p, q, k, h, e => by
    cases e
    exact h
  | s :: r, p, q, k, h, e => by
    obtain ⟨z, h1, h2⟩ := Option.bind_eq_some_iff.mp e
    have := walkP_len hB (stepP_len hB h h1) h2
    rw [List.length_cons]
    omega
theorem stepP_all {P : List Nat → Prop} {pl : List Nat → Option Place} (hB : ∀ n p, pl n = some p → ∀ x ∈ p, P x) {s : Step} {p q : Place} (hs : ∀ n, s = .name n → P n) (hp : ∀ x ∈ p, P x) (e : stepP pl s p = some q) : ∀ x ∈ q, P x := by
  cases s with
  | root =>
    cases e
    intro x hx
    cases hx
  | up =>
    cases e
    exact fun x hx => hp x ((List.dropLast_sublist p).subset hx)
  | share n => exact hB n q e
  | name n =>
    cases e
    intro x hx
    rcases List.mem_append.mp hx with h | h
    · exact hp x h
    · rw [List.mem_singleton.mp h]
      exact hs n rfl
theorem walkP_all {P : List Nat → Prop} {pl : List Nat → Option Place} (hB : ∀ n p, pl n = some p → ∀ x ∈ p, P x) : ∀ {ss : List Step} {p q : Place}, (∀ n, Step.name n ∈ ss → P n) → (∀ x ∈ p, P x) → walkP pl ss p = some q → ∀ x ∈ q, P x
  | [], p, q, _, h, e => by
    cases e
    exact h
  | s :: r, p, q, hs, h, e => by
    obtain ⟨z, h1, h2⟩ := Option.bind_eq_some_iff.mp e
    exact walkP_all hB (fun n hn => hs n (List.mem_cons_of_mem _ hn)) (stepP_all hB (fun n e => hs n (by rw [e]; exact List.mem_cons_self)) h h1) h2
/-! ### the place of a share -/
abbrev Tab := List (List Nat × List Step)
def placeF (rows : Tab) : Nat → List Nat → Option Place
  | 0, _ => none
  | k + 1, n => match look rows n with | none => none | some ss => walkP (placeF rows k) ss []
def PlaceOf (rows : Tab) (n : List Nat) (p : Place) : Prop := ∃ k, placeF rows k n = some p
theorem placeF_succ {rows : Tab} : ∀ {k : Nat} {n : List Nat} {p : Place}, placeF rows k n = some p → placeF rows (k + 1) n = some p
  | 0, _, _, h => by cases h
  | k + 1, n, p, h => by
    rw [placeF] at h ⊢
    cases e : look rows n with
    | none =>
      rw [e] at h
      cases h
    | some ss =>
      rw [e] at h
      exact walkP_mono (fun _ _ q => placeF_succ q) h
theorem placeF_le {rows : Tab} {k j : Nat} {n : List Nat} {p : Place} (h : placeF rows k n = some p) (hj : k ≤ j) : placeF rows j n = some p := by
  obtain ⟨d, rfl⟩ := Nat.le.dest hj
  clear hj
  induction d with
  | zero => exact h
  | succ d ih => exact placeF_succ ih
theorem PlaceOf.uniq {rows : Tab} {n : List Nat} {p q : Place} (h1 : PlaceOf rows n p) (h2 : PlaceOf rows n q) : p = q := by
  obtain ⟨k, h1⟩ := h1
  obtain ⟨j, h2⟩ := h2
  have e1 := placeF_le h1 (Nat.le_max_left k j)
  have e2 := placeF_le h2 (Nat.le_max_right k j)
  rw [e1] at e2
  exact Option.some.inj e2
theorem PlaceOf.key {rows : Tab} {n : List Nat} {p : Place} (h : PlaceOf rows n p) : n ∈ keys rows := by
  obtain ⟨k, h⟩ := h
  cases k with
  | zero => cases h
  | succ k =>
    rw [placeF] at h
    cases e : look rows n with
    | none =>
      rw [e] at h
      cases h
    | some ss => exact List.mem_map.mpr ⟨_, look_mem e, rfl⟩
/-- one fuel for all -/
theorem fuel_all {rows : Tab} {pl : List Nat → Option Place} (h : ∀ n p, pl n = some p → PlaceOf rows n p) : ∀ ms : List (List Nat), (∀ m ∈ ms, ∃ p, pl m = some p) → ∃ k, ∀ m ∈ ms, placeF rows k m = pl m
  | [], _ => ⟨0, fun m hm => by cases hm⟩
  | m :: r, hm => by
    obtain ⟨k, hk⟩ := fuel_all h r fun x hx => hm x (List.mem_cons_of_mem _ hx)
    obtain ⟨p, hp⟩ := hm m List.mem_cons_self
    obtain ⟨j, hj⟩ := h m p hp
    refine ⟨max k j, fun x hx => ?_⟩
    rcases List.mem_cons.mp hx with rfl | hx
    · rw [hp]
      exact placeF_le hj (Nat.le_max_right _ _)
    · obtain ⟨z, hz⟩ := hm x (List.mem_cons_of_mem _ hx)
      have := hk x hx
      rw [hz] at this ⊢
      exact placeF_le this (Nat.le_max_left _ _)
theorem PlaceOf.new {rows : Tab} {pl : List Nat → Option Place} {n : List Nat} {ss : List Step} {q : Place} (h : ∀ n p, pl n = some p → PlaceOf rows n p) (hn : look rows n = some ss) (e : walkP pl ss [] = some q) : PlaceOf rows n q := by
  obtain ⟨k, hk⟩ := fuel_all h (sharesOf ss) (walkP_shares e)
  refine ⟨k + 1, ?_⟩
  rw [placeF, hn]
  show walkP (placeF rows k) ss [] = some q
  rw [walkP_congr hk]
  exact e
def Closed (rows : Tab) : Prop := ∀ n ss, (n, ss) ∈ rows → ∀ m ∈ sharesOf ss, m ∈ keys rows
/-- where nothing can be placed any more -/
theorem stuck {rows : Tab} {spots : List (List Nat × Place)} {wn : List (List Nat)} (hc : Closed rows) (hall : ∀ n ∈ keys rows, n ∈ keys spots ∨ n ∈ wn) (hst : ∀ n ∈ wn, ∃ ss, look rows n = some ss ∧ ∃ m ∈ sharesOf ss, m ∉ keys spots) :
    ∀ (k : Nat) (n : List Nat), n ∈ wn → placeF rows k n = none
  | 0, _, _ => rfl
  | k + 1, n, hn => by
    obtain ⟨ss, h1, m, hm, hms⟩ := hst n hn
    have hmw : m ∈ wn := (hall m (hc n ss (look_mem h1) m hm)).resolve_left hms
    have ih := stuck hc hall hst k m hmw
    rw [placeF, h1]
    show walkP (placeF rows k) ss [] = none
    cases e : walkP (placeF rows k) ss [] with
    | none => rfl
    | some q =>
      obtain ⟨z, hz⟩ := walkP_shares e m hm
      rw [ih] at hz
      cases hz
structure SpotsOf (rows : Tab) (spots : List (List Nat × Place)) : Prop where
  nd : (keys spots).Nodup
  all : ∀ n, n ∈ keys spots ↔ n ∈ keys rows
  ok : ∀ n p, look spots n = some p → PlaceOf rows n p
/-- the table's lines and their steps -/
def LinesRows (lines : List (List Nat × List Nat)) (rows : Tab) : Prop := Paired (fun l r => l.1 = r.1 ∧ stepsOf l.2 = some r.2) lines rows
theorem LinesRows.keys {lines : List (List Nat × List Nat)} {rows : Tab} (h : LinesRows lines rows) : keys lines = keys rows := by
  induction h with
  | nil => rfl
  | cons r _ ih =>
    show _ :: Pw.keys _ = _ :: Pw.keys _
    rw [ih, r.1]
theorem LinesRows.uniq {lines : List (List Nat × List Nat)} {rows rows' : Tab} (h : LinesRows lines rows) (h' : LinesRows lines rows') : rows = rows' := by
  induction h generalizing rows' with
  | nil =>
    cases h'
    rfl
  | cons r _ ih =>
    cases h' with
    | cons r' t' =>
      rw [ih t']
      congr 1
      refine Prod.ext (r.1.symm.trans r'.1) ?_
      have := r.2.symm.trans r'.2
      exact Option.some.inj this
end Pw

/-! Promises: places, walks, tables of shares. -/
namespace Pw
open PySem PySem.Spec PyProof.Rows L2
/-- an object of Shares -/
def SharesAt (C : Ad) (H : Hp) (x : Addr) (names : List (List Nat)) (spots : List (List Nat × Place)) : Prop :=
  ∃ dx o s, H x = some (.ins C.Sh dx [("order", .ref o), ("spots", .ref s)]) ∧ H o = some (.lst (names.map vS)) ∧ DictM placeR H s spots
theorem SharesAt.same {C : Ad} {H H' : Hp} {x : Addr} {names : List (List Nat)} {spots : List (List Nat × Place)} (e : Same H H') (h : SharesAt C H x names spots) : SharesAt C H' x names spots := by
  obtain ⟨dx, o, s, h1, h2, h3⟩ := h
  exact ⟨dx, o, s, e _ _ h1, e _ _ h2, h3.same placeR_grows e⟩
/-- what is known of the class Shares -/
structure FxSh (K : PySem.W.Frag) (C : Ad) : Prop where
  cl : Cls K C.Sh
  na_order : NoAttr K C.Sh "order"
  na_spots : NoAttr K C.Sh "spots"
theorem fresh_back0 {H H' : Hp} {r : Addr} (s : Same H H') (h : H' r = none) : H r = none := by
  cases e : H r with
  | none => rfl
  | some o =>
    have := s r o e
    rw [h] at this
    cases this
/-- no place of the table is longer than B -/
def Short (B : Nat) (spots : List (List Nat × Place)) : Prop := ∀ n p, look spots n = some p → p.length ≤ B
section
variable {K : PySem.W.Frag} {C : Ad} {H : Hp} {Q : VK} {E : XK}
def sp_l_place_by (K : PySem.W.Frag) (C : Ad) : Sp := fun vs H Q _ => ∃ (a : Addr) (cs : List Int), vs = [.ref a] ∧ SqL K H a (cs.map V.int) ∧ cs.length ≤ 1000 ∧
  ∀ (p : Addr) (pl : Place), H p = none → pl.length = cs.length → (∀ n ∈ pl, Nm n) → Q (.ref p) (upd H p (.lst (pl.map vS)))
theorem i_l_place_by {a : Addr} {cs : List Int} (h : SqL K H a (cs.map V.int)) (hl : cs.length ≤ 1000) (q : ∀ (p : Addr) (pl : Place), H p = none → pl.length = cs.length → (∀ n ∈ pl, Nm n) → Q (.ref p) (upd H p (.lst (pl.map vS)))) : sp_l_place_by K C [.ref a] H Q E := ⟨a, cs, rfl, h, hl, q⟩
def sp_p_Shares_place (K : PySem.W.Frag) (C : Ad) : Sp := fun vs H Q E => ∃ (x : Addr) (n : List Nat) (names : List (List Nat)) (spots : List (List Nat × Place)), vs = [.ref x, vS n] ∧ SharesAt C H x names spots ∧
  (∀ pl q H', look spots n = some pl → Same H H' → H q = none → H' q = some (.lst (pl.map vS)) → Q (.ref q) H') ∧ (look spots n = none → E (.ref C.N) none H)
theorem i_p_Shares_place {x : Addr} {n : List Nat} {names : List (List Nat)} {spots : List (List Nat × Place)} (h : SharesAt C H x names spots) (q : ∀ pl q H', look spots n = some pl → Same H H' → H q = none → H' q = some (.lst (pl.map vS)) → Q (.ref q) H')
    (e : look spots n = none → E (.ref C.N) none H) : sp_p_Shares_place K C [.ref x, vS n] H Q E := ⟨x, n, names, spots, rfl, h, q, e⟩
def sp_p_Shares_names (K : PySem.W.Frag) (C : Ad) : Sp := fun vs H Q E => ∃ (x : Addr) (names : List (List Nat)) (spots : List (List Nat × Place)), vs = [.ref x] ∧ SharesAt C H x names spots ∧
  (∀ q, H q = none → Q (.ref q) (upd H q (.lst (names.map vS))))
theorem i_p_Shares_names {x : Addr} {names : List (List Nat)} {spots : List (List Nat × Place)} (h : SharesAt C H x names spots) (q : ∀ q, H q = none → Q (.ref q) (upd H q (.lst (names.map vS)))) : sp_p_Shares_names K C [.ref x] H Q E := ⟨x, names, spots, rfl, h, q⟩
def sp_p_walk (K : PySem.W.Frag) (C : Ad) : Sp := fun vs H Q E => ∃ (p x : Addr) (l : List Nat) (start : Place) (names : List (List Nat)) (spots : List (List Nat × Place)), vs = [.ref p, vS l, .ref x] ∧ SqL K H p (start.map vS) ∧ l.length ≤ 300000 ∧ start.length ≤ 300000 ∧
  SharesAt C H x names spots ∧ Short 300000 spots ∧
  (∀ ss pl q H', stepsOf l = some ss → walkP (look spots) ss start = some pl → Same H H' → H q = none → H' q = some (.lst (pl.map vS)) → Q (.ref q) H') ∧
  (stepsOf l = none → ∀ H', Same H H' → E (.ref C.B) none H') ∧ (∀ ss, stepsOf l = some ss → walkP (look spots) ss start = none → ∀ H', Same H H' → E (.ref C.N) none H')
theorem i_p_walk {p x : Addr} {l : List Nat} {start : Place} {names : List (List Nat)} {spots : List (List Nat × Place)} (hp : SqL K H p (start.map vS)) (hl : l.length ≤ 300000) (hs : start.length ≤ 300000) (hx : SharesAt C H x names spots) (hsh : Short 300000 spots)
    (q : ∀ ss pl q H', stepsOf l = some ss → walkP (look spots) ss start = some pl → Same H H' → H q = none → H' q = some (.lst (pl.map vS)) → Q (.ref q) H')
    (e1 : stepsOf l = none → ∀ H', Same H H' → E (.ref C.B) none H') (e2 : ∀ ss, stepsOf l = some ss → walkP (look spots) ss start = none → ∀ H', Same H H' → E (.ref C.N) none H') : sp_p_walk K C [.ref p, vS l, .ref x] H Q E :=
  ⟨p, x, l, start, names, spots, rfl, hp, hl, hs, hx, hsh, q, e1, e2⟩
def sp_l_far_by (K : PySem.W.Frag) (C : Ad) : Sp := fun vs H Q _ => ∃ c : Int, vs = [.int c] ∧ ∀ v H' l ss, Same H H' → PathAt K H' v l ss → Drawn [] 1500 l ss → Q v H'
theorem i_l_far_by {c : Int} (q : ∀ v H' l ss, Same H H' → PathAt K H' v l ss → Drawn [] 1500 l ss → Q v H') : sp_l_far_by K C [.int c] H Q E := ⟨c, rfl, q⟩
def sp_p_gone (K : PySem.W.Frag) (C : Ad) : Sp := fun vs H Q _ => ∃ (p s : Addr) (v : V) (pl pl' : Place) (st : Step) (spots : List (List Nat × Place)), vs = [.ref p, v, .ref s] ∧ H p = some (.lst (pl.map vS)) ∧ pl.length < 1000000 ∧ StepAt K H v st ∧ DictAt placeR H s spots ∧
  stepP (look spots) st pl = some pl' ∧ ∀ q H', Same H H' → H q = none → H' q = some (.lst (pl'.map vS)) → Q (.ref q) H'
theorem i_p_gone {p s : Addr} {v : V} {pl pl' : Place} {st : Step} {spots : List (List Nat × Place)} (hp : H p = some (.lst (pl.map vS))) (hl : pl.length < 1000000) (hv : StepAt K H v st) (hs : DictAt placeR H s spots) (e : stepP (look spots) st pl = some pl')
    (q : ∀ q H', Same H H' → H q = none → H' q = some (.lst (pl'.map vS)) → Q (.ref q) H') : sp_p_gone K C [.ref p, v, .ref s] H Q E := ⟨p, s, v, pl, pl', st, spots, rfl, hp, hl, hv, hs, e, q⟩
def sp_p_wanted (K : PySem.W.Frag) (C : Ad) : Sp := fun vs H Q _ => ∃ (p : Addr) (ss : List Step), vs = [.ref p] ∧ Steps K H p ss ∧ ss.length ≤ 900000 ∧ ∀ q, H q = none → Q (.ref q) (upd H q (.lst ((sharesOf ss).map vS)))
theorem i_p_wanted {p : Addr} {ss : List Step} (h : Steps K H p ss) (hl : ss.length ≤ 900000) (q : ∀ q, H q = none → Q (.ref q) (upd H q (.lst ((sharesOf ss).map vS)))) : sp_p_wanted K C [.ref p] H Q E := ⟨p, ss, rfl, h, hl, q⟩
/-- a table that is not too big -/
structure Small (rows : Tab) : Prop where
  num : rows.length ≤ 500
  len : ∀ n ss, (n, ss) ∈ rows → ss.length ≤ 500
  nd : (keys rows).Nodup
def sp_p_settled (K : PySem.W.Frag) (C : Ad) : Sp := fun vs H Q E => ∃ (r : Addr) (rows : Tab), vs = [.ref r] ∧ DictM (stepsR K) H r rows ∧ Small rows ∧ Closed rows ∧
  (∀ s H' spots, Same H H' → DictM placeR H' s spots → SpotsOf rows spots → Short 300000 spots → H s = none → Q (.ref s) H') ∧ ((∃ n ∈ keys rows, ∀ p, ¬ PlaceOf rows n p) → ∀ H', Same H H' → E (.ref C.R) none H')
theorem i_p_settled {r : Addr} {rows : Tab} (h : DictM (stepsR K) H r rows) (hs : Small rows) (hc : Closed rows) (q : ∀ s H' spots, Same H H' → DictM placeR H' s spots → SpotsOf rows spots → Short 300000 spots → H s = none → Q (.ref s) H')
    (e : (∃ n ∈ keys rows, ∀ p, ¬ PlaceOf rows n p) → ∀ H', Same H H' → E (.ref C.R) none H') : sp_p_settled K C [.ref r] H Q E := ⟨r, rows, rfl, h, hs, hc, q, e⟩
/-- a table of lines that is not too big -/
structure SmallL (lines : List (List Nat × List Nat)) : Prop where
  num : lines.length ≤ 500
  len : ∀ n l, (n, l) ∈ lines → l.length ≤ 300000
  steps : ∀ n l ss, (n, l) ∈ lines → stepsOf l = some ss → ss.length ≤ 500
  nd : (keys lines).Nodup
/-- the object's own list and dict are new -/
def SharesNew (C : Ad) (H H' : Hp) (x : Addr) : Prop := ∀ dx o s, H' x = some (.ins C.Sh dx [("order", .ref o), ("spots", .ref s)]) → H o = none ∧ H s = none
/-- all but the object itself stays -/
def SameX (x : Addr) (H H' : Hp) : Prop := ∀ b o, b ≠ x → H b = some o → H' b = some o
def sp_p_Shares_init (K : PySem.W.Frag) (C : Ad) : Sp := fun vs H Q E => ∃ (x t dx : Addr) (lines : List (List Nat × List Nat)), vs = [.ref x, .ref t] ∧ H x = some (.ins C.Sh dx []) ∧ DictM txtR H t lines ∧ SmallL lines ∧
  (∀ rows spots H', LinesRows lines rows → Closed rows → SpotsOf rows spots → Short 300000 spots → SameX x H H' → SharesAt C H' x (keys lines) spots → SharesNew C H H' x → Q .non H') ∧
  ((∃ n l, (n, l) ∈ lines ∧ stepsOf l = none) → ∀ H', E (.ref C.B) none H') ∧ (∀ rows, LinesRows lines rows → ¬ Closed rows → ∀ H', E (.ref C.N) none H') ∧
  (∀ rows, LinesRows lines rows → Closed rows → (∃ n ∈ keys rows, ∀ p, ¬ PlaceOf rows n p) → ∀ H', E (.ref C.R) none H')
/-- Shares(table) -/
theorem i_shares {E : L2.St → XK} {t : TA} {σ : L2.St} (h : t σ H fun vs H1 => ∃ (a : Addr) (lines : List (List Nat × List Nat)), vs = [.ref a] ∧ DictM txtR H1 a lines ∧ SmallL lines ∧
    (∀ x rows spots H', LinesRows lines rows → Closed rows → SpotsOf rows spots → Short 300000 spots → Same H1 H' → H1 x = none → SharesAt C H' x (keys lines) spots → SharesNew C H1 H' x → Q (.ref x) H') ∧
    ((∃ n l, (n, l) ∈ lines ∧ stepsOf l = none) → ∀ H', E σ (.ref C.B) none H') ∧ (∀ rows, LinesRows lines rows → ¬ Closed rows → ∀ H', E σ (.ref C.N) none H') ∧
    (∀ rows, LinesRows lines rows → Closed rows → (∃ n ∈ keys rows, ∀ p, ¬ PlaceOf rows n p) → ∀ H', E σ (.ref C.R) none H'))
    (mono : ∀ Q Q' : List V → Hp → Prop, (∀ vs H, Q vs H → Q' vs H) → t σ H Q → t σ H Q') : tMkS C.Sh (sp_p_Shares_init K C) E t σ H Q := by
  refine mono _ _ (fun vs H1 hh => ?_) h
  obtain ⟨a, lines, rfl, hd, hs, q, e1, e2, e3⟩ := hh
  intro x dx hx hdx hne
  have s1 : Same H1 (upd (upd H1 dx (.own x)) x (.ins C.Sh dx [])) := (same_new hdx).trans (same_new (by rw [upd_ne (fun z => hne z.symm)]; exact hx))
  refine ⟨x, a, dx, lines, rfl, upd_same, hd.same txtR_grows s1, hs, fun rows spots H' r1 r2 r3 r4 r5 r6 r7 => ⟨rfl, ?_⟩, e1, e2, e3⟩
  refine q x rows spots H' r1 r2 r3 r4 (fun b o e => ?_) hx r6 (fun dx' o' s' z => ⟨fresh_back0 s1 (r7 dx' o' s' z).1, fresh_back0 s1 (r7 dx' o' s' z).2⟩)
  have nx : b ≠ x := fun z => by
    rw [z, hx] at e
    cases e
  exact r5 b o nx (s1 b o e)
theorem i_met {Cl : Addr} {m : Str} {sp : Sp} {E : L2.St → XK} {ta : TE} {t : TA} {σ : L2.St} (h : ta σ H fun x H1 => ∃ a dx fs, x = .ref a ∧ H1 a = some (.ins Cl dx fs) ∧ fs.lookup m = none ∧ t σ H1 fun vs H2 => sp (x :: vs) H2 Q (E σ)) : tMetS Cl m sp E ta t σ H Q := h
theorem SharesAt.met {x : Addr} {names : List (List Nat)} {spots : List (List Nat × Place)} {m : Str} {P : Prop} (h : SharesAt C H x names spots) (hm : ∀ o s : Addr, ([("order", .ref o), ("spots", .ref s)] : List (Str × V)).lookup m = none) (q : P) :
    ∃ a dx fs, V.ref x = .ref a ∧ H a = some (.ins C.Sh dx fs) ∧ fs.lookup m = none ∧ P := by
  obtain ⟨dx, o, s, h1, h2, h3⟩ := h
  exact ⟨x, dx, _, rfl, h1, hm o s, q⟩
def sp_l_texts (K : PySem.W.Frag) (C : Ad) : Sp := fun vs H Q _ => ∃ (p : Addr) (pl : Place), vs = [.ref p] ∧ H p = some (.lst (pl.map vS)) ∧ pl.length ≤ 900000 ∧ ∀ H', Same H H' → Q (.bl true) H'
theorem i_l_texts {p : Addr} {pl : Place} (h : H p = some (.lst (pl.map vS))) (hl : pl.length ≤ 900000) (q : ∀ H', Same H H' → Q (.bl true) H') : sp_l_texts K C [.ref p] H Q E := ⟨p, pl, rfl, h, hl, q⟩
def sp_l_walk (K : PySem.W.Frag) (C : Ad) : Sp := fun vs H Q _ => ∃ (p s d : Addr) (start pl : Place) (ss : List Step) (places : List (List Nat × Place)), vs = [.ref p, .ref s, .ref d] ∧ SqL K H p (start.map vS) ∧ Steps K H s ss ∧ DictAt placeR H d places ∧ start.length + ss.length ≤ 500000 ∧ Short 400000 places ∧
  walkP (look places) ss start = some pl ∧ ∀ q H', Same H H' → H q = none → H' q = some (.lst (pl.map vS)) → Q (.ref q) H'
theorem i_l_walk {p s d : Addr} {start pl : Place} {ss : List Step} {places : List (List Nat × Place)} (hp : SqL K H p (start.map vS)) (hs : Steps K H s ss) (hd : DictAt placeR H d places) (hl : start.length + ss.length ≤ 500000) (hsh : Short 400000 places)
    (e : walkP (look places) ss start = some pl) (q : ∀ q H', Same H H' → H q = none → H' q = some (.lst (pl.map vS)) → Q (.ref q) H') : sp_l_walk K C [.ref p, .ref s, .ref d] H Q E := ⟨p, s, d, start, pl, ss, places, rfl, hp, hs, hd, hl, hsh, e, q⟩
def sp_l_walk_k06 (K : PySem.W.Frag) (C : Ad) : Sp := sp_l_walk K C
def sp_l_place_by_b (K : PySem.W.Frag) (C : Ad) : Sp := sp_l_place_by K C
def sp_l_path_by_b (K : PySem.W.Frag) (C : Ad) : Sp := sp_l_path_by K C
end
end Pw

/-! Lines told plainly: plain facts. -/
namespace Pw
open PySem PySem.Spec PyProof.Rows L2
def toldParts (u : Nat) (ns : Place) : List (List Nat) := List.replicate u [46, 46] ++ ns.map written
def toldL (r : Bool) (u : Nat) (ns : Place) : List Nat := if r = true then 47 :: joinS (toldParts u ns) else if toldParts u ns = [] then [46] else joinS (toldParts u ns)
def toldSteps (r : Bool) (u : Nat) (ns : Place) : List Step := (if r = true then [.root] else []) ++ (List.replicate u .up ++ ns.map .name)
def AllNm (ns : Place) : Prop := ∀ n ∈ ns, Nm n
theorem toldParts_len (u : Nat) (ns : Place) : (toldParts u ns).length = u + ns.length := by simp [toldParts]
theorem toldParts_mem {u : Nat} {ns : Place} (h : AllNm ns) : ∀ p ∈ toldParts u ns, 47 ∉ p ∧ p ≠ [] ∧ p ≠ [46] ∧ p.length ≤ 129 ∧ p.head? ≠ some 64 := by
  intro p hp
  rcases List.mem_append.mp hp with q | q
  · rw [(List.mem_replicate.mp q).2]
    decide
  · obtain ⟨n, hn, rfl⟩ := List.mem_map.mp q
    have hw := written_plain (h n hn).lo
    have hl := written_len n
    have := (h n hn).hi
    exact ⟨written_free (h n hn).nd, hw.ne, hw.dot, by omega, hw.at_⟩
theorem toldParts_join_len {u : Nat} {ns : Place} (h : AllNm ns) : (joinS (toldParts u ns)).length ≤ 130 * (u + ns.length) := by
  have h1 := joinS_len (toldParts u ns)
  have h2 : sumL (toldParts u ns) ≤ 129 * (toldParts u ns).length := sumL_le fun p hp => (toldParts_mem h p hp).2.2.2.1
  rw [toldParts_len] at h1 h2
  omega
theorem toldL_len {r : Bool} {u : Nat} {ns : Place} (h : AllNm ns) : (toldL r u ns).length ≤ 130 * (u + ns.length) + 1 := by
  have := toldParts_join_len (u := u) h
  unfold toldL
  split
  · simp
    omega
  · split
    · simp
    · omega
theorem join_head {ps : List (List Nat)} {p : List Nat} (h : ps.head? = some p) (hp : p ≠ []) : (joinS ps).head? = p.head? := by
  cases p with
  | nil => exact absurd rfl hp
  | cons c r => 
    match ps, h with
    | [x], h =>
      cases h
      rfl
    | x :: y :: t, h =>
      cases h
      rfl
theorem told_head {u : Nat} {ns : Place} (h : AllNm ns) : (toldL false u ns).head? ≠ some 47 := by
  unfold toldL
  rw [if_neg (by decide)]
  split
  · decide
  · rename_i hne
    cases e : toldParts u ns with
    | nil => exact absurd e hne
    | cons p t =>
      have hp := toldParts_mem h p (by rw [e]; exact List.mem_cons_self)
      rw [join_head (p := p) rfl hp.2.1]
      intro z
      cases p with
      | nil => cases z
      | cons c r =>
        have : c = 47 := by simpa using z
        exact hp.1 (by rw [this]; exact List.mem_cons_self)
theorem take1_head {l : List Nat} {c : Nat} : l.take 1 = [c] ↔ l.head? = some c := by
  cases l with
  | nil => simp
  | cons a r => simp
theorem told_root {u : Nat} {ns : Place} (h : AllNm ns) (r : Bool) : (toldL r u ns).take 1 = [47] ↔ r = true := by
  rw [take1_head]
  cases r with
  | true =>
    constructor
    · exact fun _ => rfl
    · exact fun _ => rfl
  | false =>
    constructor
    · exact fun e => absurd e (told_head h)
    · intro e
      cases e
theorem join_single {ps : List (List Nat)} (hf : ∀ p ∈ ps, 47 ∉ p) {x : List Nat} (hx : 47 ∉ x) (hne : ps ≠ []) (e : joinS ps = x) : ps = [x] := by
  have h := split_join hne hf
  rw [e, splitS_free hx] at h
  exact h.symm
/-- the line is a stroke or a dot alone where there are no parts -/
theorem told_bare {u : Nat} {ns : Place} (h : AllNm ns) (r : Bool) : (toldL r u ns = [47] ∨ toldL r u ns = [46]) ↔ toldParts u ns = [] := by
  have hm := toldParts_mem (u := u) h
  constructor
  · intro e
    by_cases z : toldParts u ns = []
    · exact z
    · unfold toldL at e
      cases r with
      | true =>
        rw [if_pos rfl] at e
        rcases e with e | e
        · have e2 : joinS (toldParts u ns) = [] := by simpa using e
          have := join_single (fun p hp => (hm p hp).1) (by simp) z e2
          exact absurd rfl ((hm [] (by rw [this]; exact List.mem_singleton.mpr rfl)).2.1)
        · simp at e
      | false =>
        rw [if_neg (by decide), if_neg z] at e
        rcases e with e | e
        · have hh := told_head (u := u) h
          unfold toldL at hh
          rw [if_neg (by decide), if_neg z, e] at hh
          exact absurd rfl hh
        · have := join_single (fun p hp => (hm p hp).1) (by decide) z e
          exact absurd rfl ((hm [46] (by rw [this]; exact List.mem_singleton.mpr rfl)).2.2.1)
  · intro e
    unfold toldL
    rw [e]
    cases r with
    | true => exact .inl rfl
    | false => exact .inr rfl
theorem told_nil_iff {u : Nat} {ns : Place} : toldParts u ns = [] ↔ u = 0 ∧ ns = [] := by
  unfold toldParts
  constructor
  · intro e
    have := List.append_eq_nil_iff.mp e
    refine ⟨?_, by simpa using this.2⟩
    have h1 := congrArg List.length this.1
    simpa using h1
  · rintro ⟨rfl, rfl⟩
    rfl
/-- the steps of the parts told -/
def partSteps (u : Nat) (ns : Place) : List Step := List.replicate u .up ++ ns.map .name
theorem partSteps_len (u : Nat) (ns : Place) : (partSteps u ns).length = u + ns.length := by simp [partSteps]
theorem parts_get {u : Nat} {ns : Place} {i : Nat} {p : List Nat} (h : (toldParts u ns)[i]? = some p) : (p = [46, 46] ∧ (partSteps u ns)[i]? = some .up) ∨ ∃ n ∈ ns, p = written n ∧ (partSteps u ns)[i]? = some (.name n) := by
  unfold toldParts partSteps at *
  by_cases hi : i < u
  · rw [List.getElem?_append_left (by simpa using hi)] at h ⊢
    rw [List.getElem?_replicate, if_pos hi] at h ⊢
    cases h
    exact .inl ⟨rfl, rfl⟩
  · rw [List.getElem?_append_right (by simpa using Nat.le_of_not_lt hi)] at h ⊢
    rw [List.length_replicate] at h ⊢
    rw [List.getElem?_map] at h ⊢
    cases e : ns[i - u]? with
    | none =>
      rw [e] at h
      cases h
    | some n =>
      rw [e] at h
      cases h
      exact .inr ⟨n, List.mem_of_getElem? e, rfl, rfl⟩
theorem written_dots {n : List Nat} (h : Nm n) : written n ≠ [46, 46] := (written_plain h.lo).dots
/-- how many names both have in common from the start -/
def shN : Place → Place → Nat
  | a :: x, b :: y => if a = b then shN x y + 1 else 0
  | _, _ => 0
theorem shN_le : ∀ (x y : Place), shN x y ≤ x.length ∧ shN x y ≤ y.length
  | [], y => by simp [shN]
  | a :: x, [] => by simp [shN]
  | a :: x, b :: y => by
    have ih := shN_le x y
    rw [shN]
    split
    · simp
      omega
    · simp
theorem shN_take : ∀ (x y : Place), x.take (shN x y) = y.take (shN x y)
  | [], y => by simp [shN]
  | a :: x, [] => by simp [shN]
  | a :: x, b :: y => by
    rw [shN]
    split
    · rename_i h
      rw [h, List.take_succ_cons, List.take_succ_cons, shN_take x y]
    · rfl
theorem shN_at : ∀ {x y : Place} {i : Nat} {a b : List Nat}, x.take i = y.take i → x[i]? = some a → y[i]? = some b → a ≠ b → shN x y = i
  | [], y, i, a, b, _, h, _, _ => by simp at h
  | c :: x, [], i, a, b, _, _, h, _ => by simp at h
  | c :: x, d :: y, 0, a, b, _, h1, h2, h3 => by
    simp at h1 h2
    subst h1 h2
    rw [shN, if_neg h3]
  | c :: x, d :: y, i + 1, a, b, h, h1, h2, h3 => by
    rw [List.take_succ_cons, List.take_succ_cons] at h
    rw [List.getElem?_cons_succ] at h1 h2
    have e := List.cons.inj h
    rw [shN, if_pos e.1, shN_at e.2 h1 h2 h3]
theorem shN_end : ∀ {x y : Place} {i : Nat}, x.take i = y.take i → i ≤ x.length → i ≤ y.length → (i = x.length ∨ i = y.length) → shN x y = i
  | [], y, i, _, h, _, _ => by
    have : i = 0 := by simpa using h
    rw [this]
    rfl
  | c :: x, [], i, _, _, h, _ => by
    have : i = 0 := by simpa using h
    rw [this]
    rfl
  | c :: x, d :: y, 0, _, _, _, h => by
    rcases h with h | h <;> cases h
  | c :: x, d :: y, i + 1, h, h1, h2, h3 => by
    rw [List.take_succ_cons, List.take_succ_cons] at h
    have e := List.cons.inj h
    have ih := shN_end (x := x) (y := y) (i := i) e.2 (by simpa using h1) (by simpa using h2) (by simpa using h3)
    rw [shN, if_pos e.1, ih]
theorem shN_self : ∀ x : Place, shN x x = x.length
  | [] => rfl
  | a :: x => by
    rw [shN, if_pos rfl, shN_self x]
    rfl
/-! walks of plain steps -/
theorem walk_ups (pl : List Nat → Option Place) : ∀ (u : Nat) (p : Place), walkP pl (List.replicate u .up) p = some (p.take (p.length - u))
  | 0, p => by simp [walkP]
  | u + 1, p => by
    rw [List.replicate_succ]
    show (some p.dropLast).bind (walkP pl (List.replicate u .up)) = _
    show walkP pl (List.replicate u .up) p.dropLast = _
    rw [walk_ups pl u p.dropLast, List.dropLast_eq_take, List.take_take, List.length_take]
    congr 2
    omega
theorem walk_names (pl : List Nat → Option Place) : ∀ (ns p : Place), walkP pl (ns.map .name) p = some (p ++ ns)
  | [], p => by simp [walkP]
  | n :: ns, p => by
    rw [List.map_cons]
    show walkP pl (ns.map .name) (p ++ [n]) = _
    rw [walk_names pl ns]
    simp
theorem walk_parts (pl : List Nat → Option Place) (u : Nat) (ns p : Place) : walkP pl (partSteps u ns) p = some (p.take (p.length - u) ++ ns) := by
  rw [partSteps, walkP_app, walk_ups]
  show walkP pl (ns.map .name) _ = _
  rw [walk_names]
theorem walk_told (pl : List Nat → Option Place) (r : Bool) (u : Nat) (ns p : Place) : walkP pl (toldSteps r u ns) p = some (if r = true then ns else p.take (p.length - u) ++ ns) := by
  unfold toldSteps
  cases r with
  | true =>
    show walkP pl (partSteps u ns) [] = _
    rw [walk_parts]
    simp
  | false =>
    show walkP pl (partSteps u ns) p = _
    rw [walk_parts]
    rfl
theorem toldSteps_len (r : Bool) (u : Nat) (ns : Place) : (toldSteps r u ns).length ≤ u + ns.length + 1 := by
  cases r <;> simp [toldSteps] <;> omega
end Pw

/-! Promises: lines told. -/
namespace Pw
open PySem PySem.Spec PyProof.Rows L2
def cntUp : List Step → Nat
  | [] => 0
  | .up :: r => cntUp r + 1
  | .root :: r => cntUp r
  | .share _ :: r => cntUp r
  | .name _ :: r => cntUp r
def namesS : List Step → Place
  | [] => []
  | .name n :: r => n :: namesS r
  | .root :: r => namesS r
  | .share _ :: r => namesS r
  | .up :: r => namesS r
theorem cntUp_app : ∀ (a b : List Step), cntUp (a ++ b) = cntUp a + cntUp b
  | [], b => by simp [cntUp]
  | s :: r, b => by
    have ih := cntUp_app r b
    cases s <;> simp [cntUp, ih] <;> omega
theorem namesS_app : ∀ (a b : List Step), namesS (a ++ b) = namesS a ++ namesS b
  | [], b => rfl
  | s :: r, b => by
    have ih := namesS_app r b
    cases s <;> simp [namesS, ih]
theorem cntUp_le : ∀ l : List Step, cntUp l ≤ l.length
  | [] => Nat.le_refl _
  | s :: r => by
    have ih := cntUp_le r
    cases s <;> simp [cntUp] <;> omega
theorem namesS_le : ∀ l : List Step, (namesS l).length ≤ l.length
  | [] => Nat.le_refl _
  | s :: r => by
    have ih := namesS_le r
    cases s <;> simp [namesS] <;> omega
theorem cntUp_told (r : Bool) (u : Nat) (ns : Place) : cntUp (toldSteps r u ns) = u := by
  have h1 : ∀ u, cntUp (List.replicate u .up) = u := fun u => by
    induction u with
    | zero => rfl
    | succ u ih => rw [List.replicate_succ, cntUp, ih]
  have h2 : ∀ ns : Place, cntUp (ns.map .name) = 0 := fun ns => by
    induction ns with
    | nil => rfl
    | cons n r ih => rw [List.map_cons, cntUp, ih]
  unfold toldSteps
  rw [cntUp_app, cntUp_app, h1, h2]
  cases r <;> simp [cntUp]
theorem namesS_told (r : Bool) (u : Nat) (ns : Place) : namesS (toldSteps r u ns) = ns := by
  have h1 : ∀ u, namesS (List.replicate u .up) = [] := fun u => by
    induction u with
    | zero => rfl
    | succ u ih => rw [List.replicate_succ, namesS, ih]
  have h2 : ∀ ns : Place, namesS (ns.map .name) = ns := fun ns => by
    induction ns with
    | nil => rfl
    | cons n r ih => rw [List.map_cons, namesS, ih]
  unfold toldSteps
  rw [namesS_app, namesS_app, h1, h2]
  cases r <;> simp [namesS]
section
variable {K : PySem.W.Frag} {C : Ad} {H : Hp} {Q : VK} {E : XK}
def sp_p_shared (K : PySem.W.Frag) (C : Ad) : Sp := fun vs H Q _ => ∃ (p q : Addr) (x y : Place), vs = [.ref p, .ref q] ∧ SqL K H p (x.map vS) ∧ SqL K H q (y.map vS) ∧ ∀ H', Same H H' → Q (.int (shN x y : Nat)) H'
theorem i_p_shared {p q : Addr} {x y : Place} (h1 : SqL K H p (x.map vS)) (h2 : SqL K H q (y.map vS)) (k : ∀ H', Same H H' → Q (.int (shN x y : Nat)) H') : sp_p_shared K C [.ref p, .ref q] H Q E := ⟨p, q, x, y, rfl, h1, h2, k⟩
def sp_p_told (K : PySem.W.Frag) (C : Ad) : Sp := fun vs H Q _ => ∃ (r : Bool) (u : Nat) (p : Addr) (ns : Place), vs = [.bl r, .int (u : Int), .ref p] ∧ SqL K H p (ns.map vS) ∧ AllNm ns ∧ u + ns.length ≤ 6000 ∧ ∀ H', Same H H' → Q (vS (toldL r u ns)) H'
theorem i_p_told {r : Bool} {u : Nat} {z : Int} {p : Addr} {ns : Place} (e : z = (u : Int)) (h : SqL K H p (ns.map vS)) (hn : AllNm ns) (hl : u + ns.length ≤ 6000) (q : ∀ H', Same H H' → Q (vS (toldL r u ns)) H') : sp_p_told K C [.bl r, .int z, .ref p] H Q E := ⟨r, u, p, ns, by rw [e], h, hn, hl, q⟩
def sp_p_way (K : PySem.W.Frag) (C : Ad) : Sp := fun vs H Q _ => ∃ (p q : Addr) (x y : Place), vs = [.ref p, .ref q] ∧ SqL K H p (x.map vS) ∧ SqL K H q (y.map vS) ∧ AllNm y ∧ x.length + y.length ≤ 6000 ∧ ∀ H', Same H H' → Q (vS (toldL false (x.length - shN x y) (y.drop (shN x y)))) H'
theorem i_p_way {p q : Addr} {x y : Place} (h1 : SqL K H p (x.map vS)) (h2 : SqL K H q (y.map vS)) (hn : AllNm y) (hl : x.length + y.length ≤ 6000) (k : ∀ H', Same H H' → Q (vS (toldL false (x.length - shN x y) (y.drop (shN x y)))) H') : sp_p_way K C [.ref p, .ref q] H Q E := ⟨p, q, x, y, rfl, h1, h2, hn, hl, k⟩
def sp_l_plain_steps (K : PySem.W.Frag) (C : Ad) : Sp := fun vs H Q _ => ∃ (r : Bool) (u : Nat) (ns : Place), vs = [vS (toldL r u ns)] ∧ AllNm ns ∧ u + ns.length ≤ 6000 ∧ ∀ p H', Same H H' → H p = none → Steps K H' p (toldSteps r u ns) → Q (.ref p) H'
theorem i_l_plain_steps {r : Bool} {u : Nat} {ns : Place} (hn : AllNm ns) (hl : u + ns.length ≤ 6000) (q : ∀ p H', Same H H' → H p = none → Steps K H' p (toldSteps r u ns) → Q (.ref p) H') : sp_l_plain_steps K C [vS (toldL r u ns)] H Q E := ⟨r, u, ns, rfl, hn, hl, q⟩
def sp_l_as_told (K : PySem.W.Frag) (C : Ad) : Sp := fun vs H Q _ => ∃ (r : Bool) (u : Nat) (ns : Place) (p : Addr), vs = [vS (toldL r u ns), .ref p] ∧ Steps K H p (toldSteps r u ns) ∧ AllNm ns ∧ u + ns.length ≤ 6000 ∧ (r = true → u = 0) ∧ ∀ H', Same H H' → Q (.bl true) H'
theorem i_l_as_told {r : Bool} {u : Nat} {ns : Place} {p : Addr} (h : Steps K H p (toldSteps r u ns)) (hn : AllNm ns) (hl : u + ns.length ≤ 6000) (hr : r = true → u = 0) (q : ∀ H', Same H H' → Q (.bl true) H') : sp_l_as_told K C [vS (toldL r u ns), .ref p] H Q E := ⟨r, u, ns, p, rfl, h, hn, hl, hr, q⟩
theorem i_zip {ta : TA} {σ : L2.St} {R : It → Hp → Prop} (h : ta σ H fun vs H1 => ∃ a b xs ys, vs = [.ref a, .ref b] ∧ SqL K H1 a xs ∧ SqL K H1 b ys ∧ R (Itz K a b) H1) : iZip K ta σ H R := h
end
end Pw

/-! for i, key in enumerate(dict) -/
namespace Pw
open PySem PySem.Spec PyProof.Rows L2
section
variable {prog : Program} {w : World} {A : Around} {E : Value → Shared → Prop} {s : Shared} {it d : Addr} {i ep : Nat} {es : Array DictEntry} {od : Obj}
/-- the keys' iterator, asked for one more -/
theorem nx_key {Q : Value → Shared → Prop} (hit : s.heap.IsKeyIter it d i es.size ep) (hod : s.heap.get? d = some od) (hdd : od.data = .dict es ep) (hi : i < es.size)
    (hQ : ∀ h', h'.IsKeyIter it d (i + 1) es.size ep → Heap.SameBut it s.heap h' → Q es[i].key { s with heap := h' }) : wpAny (model prog w) A (Builtin.SmallTypes.nextOf (.ref it)) Q E s := by
  have keep := hit
  obtain ⟨o, ho, hc, hd⟩ := keep
  have own : Builtin.Dict_items.ownsTuple "dict_keyiterator" = false := by decide
  have neg : ¬ ((i : Int) < 0) := by omega
  unfold Builtin.SmallTypes.nextOf
  refine wpAny_bind (wpAny_callSpecial?_slot (name := Str.ofString "__next__") hit.typeIs PySem.F.slot_dict_keyiterator_next (wpAny_call_entry PySem.F.slot_dict_keyiterator_next hit.typeIs PySem.F.entry_dict_keyiterator_next ?run (PySem.F.args_dict_keyiterator_next_1 _)))
  refine wpAny_bind (wpAny_pure (wpAny_bind (wpAny_bind (wpAny_bind (wpAny_typeNameOfWhole_keyiter hit.typeIs (wpAny_pure (wpAny_bind (wpAny_fieldsOf ho hd ?_))))))))
  simp only [own, Bool.false_eq_true, if_false]
  show wpAny _ _ (if (Value.ref d == Value.none) = true then _ else _) _ _ s
  rw [if_neg (show ¬ (Value.ref d == Value.none) = true by intro z; cases z)]
  refine wpAny_bind (wpAny_pure (wpAny_bind (wpAny_dictEntries hod hdd ?_)))
  rw [if_neg (show ¬ (((es.size : Nat) : Int) != ((es.size : Nat) : Int)) = true by simp)]
  refine wpAny_bind (wpAny_pure (wpAny_bind (wpAny_dictEpoch hod hdd ?_)))
  rw [if_neg (show ¬ (((ep : Nat) : Int) != ((ep : Nat) : Int)) = true by simp)]
  apply wpAny_pure
  simp only [neg, if_false, Int.toNat_natCast, Array.getElem?_eq_getElem hi]
  refine wpAny_bind (wpAny_bind (wpAny_typeNameOfWhole_keyiter hit.typeIs (wpAny_pure (wpAny_bind (wpAny_isOneOf_keyiter hit.typeIs ?_)))))
  show wpAny _ _ (setField (.ref it) 1 (rawInt ((i : Int) + 1)) >>= _) _ _ s
  have next : (s.heap.update it (Obj.mapFields (·.setIfInBounds 1 (rawInt ((i : Int) + 1))))).IsKeyIter it d (i + 1) es.size ep := by
    refine ⟨_, Heap.get?_update_self _ ho (Obj.isFreed_of_fields (Obj.data_mapFields hd _)), (Obj.cls_mapFields ..).trans hc, ?_⟩
    rw [Obj.data_mapFields hd]
    simp [rawInt]
  refine wpAny_bind (wpAny_setField ho hd (by simp) (wpAny_bind (wpAny_holding (wpAny_bind (wpAny_isOneOf_keyiter (s := { s with heap := s.heap.update it (Obj.mapFields (·.setIfInBounds 1 (rawInt ((i : Int) + 1)))) }) next.typeIs ?_)))))
  show wpAny _ _ (pure es[i].key) _ _ _
  exact wpAny_pure (wpAny_pure ⟨_, rfl, wpAny_pure (hQ _ next (Heap.SameBut.update ..))⟩)
/-- .. at its end -/
theorem nx_keyEnd {Q : Value → Shared → Prop} (hh : A.handled = none) (hit : s.heap.IsKeyIter it d es.size es.size ep) (hod : s.heap.get? d = some od) (hdd : od.data = .dict es ep)
    (hE : ∀ h' e, Heap.ExtBut it s.heap h' → (∃ o, h'.get? e = some o ∧ o.cls = .type "StopIteration") → E (.ref e) { s with heap := h' }) : wpAny (model prog w) A (Builtin.SmallTypes.nextOf (.ref it)) Q E s := by
  have keep := hit
  obtain ⟨o, ho, hc, hd⟩ := keep
  have own : Builtin.Dict_items.ownsTuple "dict_keyiterator" = false := by decide
  have neg : ¬ (((es.size : Nat) : Int) < 0) := by omega
  unfold Builtin.SmallTypes.nextOf
  refine wpAny_bind (wpAny_callSpecial?_slot (name := Str.ofString "__next__") hit.typeIs PySem.F.slot_dict_keyiterator_next (wpAny_call_entry PySem.F.slot_dict_keyiterator_next hit.typeIs PySem.F.entry_dict_keyiterator_next ?run (PySem.F.args_dict_keyiterator_next_1 _)))
  refine wpAny_bind (wpAny_pure (wpAny_bind (wpAny_bind (wpAny_bind (wpAny_typeNameOfWhole_keyiter hit.typeIs (wpAny_pure (wpAny_bind (wpAny_fieldsOf ho hd ?_))))))))
  simp only [own, Bool.false_eq_true, if_false]
  show wpAny _ _ (if (Value.ref d == Value.none) = true then _ else _) _ _ s
  rw [if_neg (show ¬ (Value.ref d == Value.none) = true by intro z; cases z)]
  refine wpAny_bind (wpAny_pure (wpAny_bind (wpAny_dictEntries hod hdd ?_)))
  rw [if_neg (show ¬ (((es.size : Nat) : Int) != ((es.size : Nat) : Int)) = true by simp)]
  refine wpAny_bind (wpAny_pure (wpAny_bind (wpAny_dictEpoch hod hdd ?_)))
  rw [if_neg (show ¬ (((ep : Nat) : Int) != ((ep : Nat) : Int)) = true by simp)]
  apply wpAny_pure
  simp only [neg, if_false, Int.toNat_natCast, Array.getElem?_eq_none (Nat.le_refl es.size)]
  refine wpAny_bind (wpAny_bind (wpAny_typeNameOfWhole_keyiter hit.typeIs (wpAny_pure ?_)))
  show wpAny _ _ (setField (.ref it) 0 .none >>= _) _ _ s
  refine wpAny_bind (wpAny_setField ho hd (by simp) ?_)
  show wpAny _ _ (newExc (.type "StopIteration") [] >>= _) _ _ _
  apply wpAny_bind
  simp only [newExc, newTuple]
  refine wpAny_bind (wpAny_newObj_type (wpAny_bind (m := firstArgMember _ _) (wpAny_of_eq (a := Value.none) (by first | rfl | (simp only [firstArgMember]; rfl)) (wpAny_newObj_type ?_ (by size_fits)))) (by size_fits))
  simp only [raiseNew]
  apply wpAny_bind
  apply wpAny_handled
  first | rw [hh] | rw [show A.in1.handled = none from hh]
  refine wpAny_bind (wpAny_pure (wpAny_throw (hE _ _ (((Heap.SameBut.update ..).extBut.push _).push _) ⟨_, Heap.get?_push_size _ rfl, rfl⟩)))
end
/-- the keys of a dict that nobody changes, drawn one by one -/
theorem draws_keys {prog : Program} {w : World} {A : Around} (hh : A.handled = none) (it d : Addr) (hne : d ≠ it) (od : Obj) (es : Array DictEntry) (ep : Nat) (hdd : od.data = .dict es ep) :
    Draws prog w A it [it, d] es.size (fun i v => ∃ e, es[i]? = some e ∧ v = e.key) (fun i h => h.IsKeyIter it d i es.size ep ∧ h.get? d = some od) where
  live := fun _ _ st => by
    obtain ⟨⟨o, ho, _⟩, _⟩ := st
    exact ⟨o, ho⟩
  frame := fun _ _ _ st hk => by
    obtain ⟨⟨o, ho, r⟩, h2⟩ := st
    exact ⟨⟨o, hk it (by simp) o ho, r⟩, hk d (by simp) od h2⟩
  item := fun i s Q E hi st hQ => nx_key st.1 st.2 hdd hi fun h' hit' hs' => hQ _ h' s.toks ⟨es[i], by simp [hi], rfl⟩ ⟨hit', (hs'.2 d hne).trans st.2⟩ hs'
  done := fun s Q E st hE => nx_keyEnd hh st.1 st.2 hdd hE
/-- enumerate(dict) is made -/
theorem made_enumD (d : Addr) (od : Obj) (es : Array DictEntry) (ep : Nat) (hsys : (d == sysModules) = false) (hx : od.ExactDict) (hdd : od.data = .dict es ep) :
    Meets (Builtin.«enumerate.__new__» ⟨[.type "enumerate", .ref d], []⟩) (fun _ R s => s.heap.get? d = some od ∧
      R (.ok (.ret (.ref (s.heap.push { cls := .type "dict_keyiterator", data := .fields #[.ref d, .int 0 0, .int es.size 0, .int ep 0] }).objs.size)))
        { s with heap := (s.heap.push { cls := .type "dict_keyiterator", data := .fields #[.ref d, .int 0 0, .int es.size 0, .int ep 0] }).push { cls := .type "enumerate", data := .fields #[.none, .bool false, .ref s.heap.objs.size, rawInt 0, .none, .none] } }) := by
  refine .of_wp fun prog w A R s h => ?_
  obtain ⟨hp, g, dr, tk, os⟩ := s
  obtain ⟨ho, h⟩ := h
  have hsub := sub_enumerate
  wp_walk
  refine wpAny_stack_any fun st => wpAny_pure ?_
  split
  · rename_i c _ _ _ _ _
    cases (c == Value.type "enumerate") <;> (wp_walk using iter_keys hsys ho hx hdd; exact ⟨_, rfl, h⟩)
  · wp_walk using iter_keys hsys ho hx hdd
    exact ⟨_, rfl, h⟩
section
variable {prog : Program} {w : World} {A : Around} {E : Value → Shared → Prop} {s : Shared} {d : Addr} {ep : Nat} {es : Array DictEntry} {od : Obj}
theorem call_enumD {Q : Value → Shared → Prop} (hsys : (d == sysModules) = false) (hx : od.ExactDict) (hdd : od.data = .dict es ep) (ho : s.heap.get? d = some od)
    (h : ∀ h', IsEnum h' (s.heap.objs.size + 1) s.heap.objs.size 0 .none → h'.IsKeyIter s.heap.objs.size d 0 es.size ep → h'.objs.size = s.heap.objs.size + 2 → (∀ b o, s.heap.get? b = some o → h'.get? b = some o) → Q (.ref (s.heap.objs.size + 1)) { s with heap := h' }) :
    wpAny (model prog w) A (call (.type "enumerate") [.ref d]) Q E s := by
  let k : Obj := { cls := .type "dict_keyiterator", data := .fields #[.ref d, .int 0 0, .int es.size 0, .int ep 0] }
  let en : Obj := { cls := .type "enumerate", data := .fields #[.none, .bool false, .ref s.heap.objs.size, rawInt 0, .none, .none] }
  have hz : (s.heap.push k).objs.size = s.heap.objs.size + 1 := Heap.size_push ..
  have he : ((s.heap.push k).push en).get? (s.heap.objs.size + 1) = some en := by
    have q := Heap.get?_push_size (s.heap.push k) (o := en) rfl
    rwa [hz] at q
  have hk : ((s.heap.push k).push en).get? s.heap.objs.size = some k := Heap.get?_push_of_some _ (Heap.get?_push_size _ rfl)
  refine callType_new PySem.F.called_enumerate (by decide) (PySem.F.typeCall_enumerate_1 _) (PySem.F.newCall_enumerate_1 _) (fun obj => PySem.F.args_object_init_2 obj _) PySem.F.entry_enumerate_new (made_enumD d od es ep hsys hx hdd) ⟨ho, ?_⟩
  show _ ∧ _
  rw [hz]
  exact ⟨⟨_, he, rfl⟩, h _ he ⟨_, hk, rfl, rfl⟩ (by rw [Heap.size_push, hz]) fun b o q => Heap.get?_push_of_some _ (Heap.get?_push_of_some _ q)⟩
end
/-- the numbered keys of a locked dict -/
def IteD (d : Addr) (o : Obj) (kvs : List (Key × V)) : It :=
  ⟨fun i H => H d = some (.frz o (.dK kvs)) ∧ i < kvs.length, fun i H v H' => ∃ T k x, kvs[i]? = some (k, x) ∧ v = .ref T ∧ H T = none ∧ H' = upd H T (.tup [.int (i : Nat), kV k]), fun i H => H d = some (.frz o (.dK kvs)) ∧ kvs.length ≤ i⟩
theorem turn_enumD {P : Program} {w : World} {K : PySem.W.Frag} {elts : List Expr} {kk : Nat} {tpos : Pos} {d : Addr} {o : Obj} {kvs : List (Key × V)} {es : Array DictEntry} {ep : Nat} (e it : Addr) (hod : o.data = .dict es ep) (hsz0 : es.size = kvs.length) :
    Turn P w K (.Tuple elts kk tpos) (IteD d o kvs) [e, it] e (fun i h => (∃ old, IsEnum h e it ((i : Nat) : Int) old) ∧ h.IsKeyIter it d i es.size ep ∧ e ≠ it ∧ i ≤ kvs.length) where
  mem := by simp
  obj := fun i h st b hb => by
    obtain ⟨⟨old, he⟩, ⟨oi, ho, hc, hd⟩, _⟩ := st
    have e' : b = e ∨ b = it := by simpa using hb
    rcases e' with z | z
    · rw [z]; exact ⟨_, he, fun v q => nomatch q⟩
    · rw [z]; exact ⟨oi, ho, fun v q => by rw [hd] at q; cases q⟩
  keep := fun i h h' st k => let ⟨⟨old, he⟩, ⟨oi, ho, hc, hd⟩, hne⟩ := st; ⟨⟨old, k e (by simp) _ he⟩, ⟨oi, k it (by simp) _ ho, hc, hd⟩, hne⟩
  item := by
    intro X hP hw hK hc i pins s σ H E I hf st hg
    subst hP hw hK
    obtain ⟨hd, hi⟩ := hg
    obtain ⟨⟨old, he⟩, hit, hne, _⟩ := st
    obtain ⟨hs, hgd, hx, es', ep', vs, hdt, hsz, kv, hm⟩ := I.frzK hd
    have ned : e ≠ d := fun z => by
      have := (hf e (by simp)).1
      rw [z, hd] at this
      cases this
    have nid : d ≠ it := fun z => by
      have := (hf it (by simp)).1
      rw [← z, hd] at this
      cases this
    obtain ⟨⟨k, v⟩, hkv⟩ : ∃ p, kvs[i]? = some p := ⟨kvs[i], List.getElem?_eq_getElem hi⟩
    have hlt : i < es.size := by rw [hsz0]; exact hi
    have hel : e < s.heap.objs.size := Heap.lt_size he
    have hil : it < s.heap.objs.size := by obtain ⟨_, q, _⟩ := hit; exact Heap.lt_size q
    have D := draws_keys (prog := X.prog) (w := X.w) (A := X.A.in1) (show X.A.in1.handled = none from I.ok.hd hc) it d nid o es ep hod
    refine wpAny_pyNext_enum_itemC D he ⟨hit, hgd⟩ hlt hne (by simp [hne, ned]) fun u h' tk hP ho hit' hT _ hk => ?_
    obtain ⟨en, hen, hu⟩ := hP
    have hrel : RelV (kV k) u := by
      obtain ⟨u2, hu2, _⟩ := kv_get kv hkv
      obtain ⟨od2, es2, a1, a2, a3, a4, a5, a6⟩ := id hm
      have eo : od2 = o := by
        have := a1.symm.trans hgd
        exact Option.some.inj this
      subst eo
      have e3 := (dict_ep hod a3).1
      rw [e3] at a5
      rw [hu]
      exact relV_key (show keyIs k en.key = true from (a5.get? (e := en) (by simpa using hen) hu2).1)
    refine ⟨_, rfl, wpAny_letOwnedTupleGo_enum (s := { s with heap := h', toks := tk + 1 }) ho fun h'' he' sb => ?_⟩
    have hT2 : h''.get? s.heap.objs.size = some { cls := .type "tuple", data := .seq #[.int i tk, u] } := (sb.2 _ (Nat.ne_of_gt hel)).trans hT
    have new : ObjOk X.prog X.w (upd H s.heap.objs.size (.tup [.int (i : Nat), kV k])) h'' s.heap.objs.size (.tup [.int (i : Nat), kV k]) :=
      ⟨by show 2 ≤ sizeLine; decide, [.int i tk, u], .cons ⟨_, rfl⟩ (.cons hrel .nil), ⟨_, hT2, rfl, _, rfl⟩⟩
    have I1 : Inv X pins σ (upd H s.heap.objs.size (.tup [.int (i : Nat), kV k])) { s with heap := h'', toks := tk + 1 } :=
      I.turnedNew (ch := [e, it]) (fun b ob hb q => (sb.2 b (fun z => hb (by simp [z]))).trans (hk b ob (fun z => hb (by simp [z])) (fun z => hb (by simp [z])) q)) hf (Nat.le_refl _) new
    obtain ⟨⟨o3, ho3, hc3, hd3⟩, _⟩ := hit'
    refine ⟨.ref s.heap.objs.size, _, I1, rfl, ⟨_, k, v, hkv, rfl, I.hok.fresh (Nat.le_refl _), rfl⟩, ⟨⟨u, ?_⟩, ⟨o3, (sb.2 it (Ne.symm hne)).trans ho3, hc3, hd3⟩, hne, hi⟩, fun b hb => ?_⟩
    · have e1 : ((i + 1 : Nat) : Int) = (i : Int) + 1 := by omega
      rw [e1]; exact he'
    · have hb' : b < s.heap.objs.size := by
        have e' : b = e ∨ b = it := by simpa using hb
        rcases e' with z | z
        · rw [z]; exact hel
        · rw [z]; exact hil
      rw [upd_ne (Nat.ne_of_lt hb')]
      exact (hf b hb).1
  done := by
    intro X hP hw hK hc i pins s σ H E I hf st hg
    subst hP hw hK
    obtain ⟨hd, hge⟩ := hg
    obtain ⟨⟨old, he⟩, hit, hne, hle⟩ := st
    obtain ⟨hs, hgd, hx, es', ep', vs, hdt, hsz, kv, hm⟩ := I.frzK hd
    obtain ⟨f0, f1, f2, f3, f4, f5⟩ := hf it (by simp)
    have nid : d ≠ it := fun z => by
      rw [← z, hd] at f0
      cases f0
    have D := draws_keys (prog := X.prog) (w := X.w) (A := X.A.in1) (show X.A.in1.handled = none from I.ok.hd hc) it d nid o es ep hod
    have ei : i = es.size := by omega
    subst ei
    exact wpAny_pyNext_enum_endD D he ⟨hit, hgd⟩ fun h' eb => ⟨rfl, I.turned (t' := s.toks) (fun b ob hb q => eb b ob hb q) f0 f1 f3 f4 f5⟩
  self := fun A i s Q E st h => let ⟨⟨_, he⟩, _⟩ := st; wpAny_pyIter_enum he h
def iEnumD (ta : TA) : TI := fun σ H R => ta σ H fun vs H1 => ∃ d o kvs, vs = [.ref d] ∧ H1 d = some (.frz o (.dK kvs)) ∧ R (IteD d o kvs) H1
theorem pi_enumD {X : Cx} {e : Expr} {ta : TA} {p pos tpos : Pos} {elts : List Expr} {kk : Nat} (hg : Gl X "enumerate") (hm : X.mg "enumerate" = none) (ha : PA X [e] ta) (hs : starEach [e] X.env = [(false, eval e X.env)] := by rfl) :
    L2.PI X (.Tuple elts kk tpos) (.Call (.Name "enumerate" p) [e] [] pos) (iEnumD ta) := by
  refine ⟨fun pins s σ H R I h => ?_⟩
  refine Call_ (ld_blt I hg hm boot_enumerate (PyProof.Rows.callWith_type1 (thn (ha.run pos pins s σ H _ I h) fun us s1 ⟨vs, H1, I1, r1, q1⟩ => ?_) hs rfl))
  obtain ⟨d, o, kvs, ex, hd, q⟩ := q1
  subst ex
  cases r1 with
  | cons r rr =>
    cases rr
    obtain rfl : _ = Value.ref d := r
    obtain ⟨hsys, hgd, hx, es, ep, vs, hdt, hsz, kv, hm⟩ := I1.frzK hd
    refine call_enumD hsys hx hdt hgd fun h' he hit hsz2 hk => wpAny_pyIter_enum he ?_
    have I2 : Inv X pins σ H1 { s1 with heap := h' } := I1.kept (t' := s1.toks) hk
    refine ⟨s1.heap.objs.size + 1, [s1.heap.objs.size + 1, s1.heap.objs.size], _, _, H1, rfl, I2, turn_enumD (s1.heap.objs.size + 1) s1.heap.objs.size hdt hsz, ⟨⟨.none, he⟩, hit, Nat.succ_ne_self _, Nat.zero_le _⟩, fun b hb => ?_, q⟩
    have e' : b = s1.heap.objs.size + 1 ∨ b = s1.heap.objs.size := by simpa using hb
    have hle : s1.heap.objs.size ≤ b := by
      rcases e' with z | z
      · rw [z]; exact Nat.le_add_right _ _
      · rw [z]; exact Nat.le_refl _
    exact I1.fpOk hle (I1.hok.fresh hle)
end Pw

/-! Tables that a law draws. -/
namespace Pw
open PySem PySem.Spec PyProof.Rows L2
structure Made (lines : List (List Nat × List Nat)) (places : List (List Nat × Place)) : Prop where
  nd : (keys lines).Nodup
  kp : keys places = keys lines
  nm : ∀ n ∈ keys lines, Nm n
  st : ∀ n l, (n, l) ∈ lines → ∃ ss, stepsOf l = some ss ∧ ss.length ≤ 61 ∧ l.length ≤ 9000 ∧ ∀ s ∈ ss, StepOk (keys lines) s
  pn : ∀ n p, look places n = some p → AllNm p ∧ p.length ≤ 61 * lines.length
  rk : ∃ rk : List Nat → Nat, (∀ n ∈ keys lines, rk n < lines.length) ∧ ∀ n l ss p, (n, l) ∈ lines → stepsOf l = some ss → look places n = some p → walkP (look places) ss [] = some p ∧ ∀ m ∈ sharesOf ss, m ∈ keys lines ∧ rk m < rk n
theorem stepOk_mono {a b : List (List Nat)} (h : ∀ n ∈ a, n ∈ b) {s : Step} (e : StepOk a s) : StepOk b s := by
  cases s with
  | root => trivial
  | up => trivial
  | share n => exact h n e
  | name n => exact e
theorem Made.nil : Made [] [] := ⟨by simp [keys], rfl, (fun n h => nomatch h), (fun n l h => nomatch h), (fun n p h => nomatch h), fun _ => 0, (fun n h => nomatch h), fun n l ss p h => nomatch h⟩
theorem shares_ok {names : List (List Nat)} {ss : List Step} (h : ∀ s ∈ ss, StepOk names s) {m : List Nat} (hm : m ∈ sharesOf ss) : m ∈ names := h _ (sharesOf_mem.mp hm)
theorem look_ext {β : Type} {l : List (List Nat × β)} {n : List Nat} {b : β} {m : List Nat} {c : β} (h : look l m = some c) : look (l ++ [(n, b)]) m = some c := by
  rw [look_app, h]
theorem look_last {β : Type} {l : List (List Nat × β)} {n : List Nat} {b : β} (h : n ∉ keys l) : look (l ++ [(n, b)]) n = some b := by
  rw [look_app, look_none.mpr h]
  exact look_pos rfl
theorem Made.snoc {lines : List (List Nat × List Nat)} {places : List (List Nat × Place)} {n l : List Nat} {p : Place} {ss : List Step} {m : Nat} (M : Made lines places) (hn : n ∉ keys lines) (hN : Nm n) (hd : Drawn (keys lines) m l ss) (hm : m ≤ 60) (hp : walkP (look places) ss [] = some p) :
    Made (lines ++ [(n, l)]) (places ++ [(n, p)]) where
  nd := keys_snoc_nodup M.nd hn
  kp := by rw [keys_app, keys_app, M.kp]; rfl
  nm := fun x hx => by
    rw [keys_app] at hx
    rcases List.mem_append.mp hx with h | h
    · exact M.nm x h
    · have : x = n := by simpa [keys] using h
      rw [this]
      exact hN
  st := fun x y hxy => by
    have mono : ∀ z ∈ keys lines, z ∈ keys (lines ++ [(n, l)]) := fun z hz => by
      rw [keys_app]
      exact List.mem_append.mpr (.inl hz)
    rcases List.mem_append.mp hxy with h | h
    · obtain ⟨ss, h1, h2, h3, h4⟩ := M.st x y h
      exact ⟨ss, h1, h2, h3, fun s hs => stepOk_mono mono (h4 s hs)⟩
    · have e := List.mem_singleton.mp h
      cases e
      have h1 := hd.num
      have h2 := hd.len
      exact ⟨ss, hd.steps, by omega, by omega, fun s hs => stepOk_mono mono (hd.ok s hs)⟩
  pn := fun x y hxy => by
    have hl : (lines ++ [(n, l)]).length = lines.length + 1 := by simp
    rw [hl]
    rcases look_snoc hxy with h | ⟨rfl, rfl⟩
    · obtain ⟨h1, h2⟩ := M.pn x y h
      exact ⟨h1, by omega⟩
    · refine ⟨?_, ?_⟩
      · refine walkP_all (P := Nm) (fun a b h => (M.pn a b h).1) (fun a ha => hd.ok _ ha) (by intro a ha; cases ha) hp
      · have := walkP_len (B := 61 * lines.length) (k := 0) (fun a b h => (M.pn a b h).2) (by simp) hp
        have h1 := hd.num
        omega
  rk := by
    obtain ⟨rk, h1, h2⟩ := M.rk
    have hl : (lines ++ [(n, l)]).length = lines.length + 1 := by simp
    have hkp : n ∉ keys places := by rw [M.kp]; exact hn
    refine ⟨fun x => if x = n then lines.length else rk x, fun x hx => ?_, fun x y ss' q hxy hst hq => ?_⟩
    · rw [hl]
      rw [keys_app] at hx
      dsimp only
      split
      · exact Nat.lt_succ_self _
      · rename_i hne
        rcases List.mem_append.mp hx with h | h
        · exact Nat.lt_succ_of_lt (h1 x h)
        · exact absurd (by simpa [keys] using h) hne
    · have old : ∀ z ∈ keys lines, (if z = n then lines.length else rk z) = rk z := fun z hz => if_neg fun e => hn (by rw [← e]; exact hz)
      have ext : ∀ a b, look places a = some b → look (places ++ [(n, p)]) a = some b := fun a b h => look_ext h
      rcases List.mem_append.mp hxy with h | h
      · have hx : x ∈ keys lines := List.mem_map.mpr ⟨_, h, rfl⟩
        have hq' : look places x = some q := by
          rcases look_snoc hq with z | ⟨rfl, _⟩
          · exact z
          · exact absurd hx hn
        obtain ⟨a1, a2⟩ := h2 x y ss' q h hst hq'
        refine ⟨walkP_mono ext a1, fun z hz => ?_⟩
        obtain ⟨b1, b2⟩ := a2 z hz
        refine ⟨by rw [keys_app]; exact List.mem_append.mpr (.inl b1), ?_⟩
        dsimp only
        rw [old z b1, old x hx]
        exact b2
      · have e := List.mem_singleton.mp h
        cases e
        have e1 : some ss' = some ss := hst.symm.trans hd.steps
        cases e1
        rw [look_last hkp] at hq
        cases hq
        refine ⟨walkP_mono ext hp, fun z hz => ?_⟩
        have hzk := shares_ok hd.ok hz
        refine ⟨by rw [keys_app]; exact List.mem_append.mpr (.inl hzk), ?_⟩
        dsimp only
        rw [old z hzk, if_pos rfl]
        exact h1 z hzk
/-! the same pairs in another order -/
section
variable {lines lines' : List (List Nat × List Nat)} {places : List (List Nat × Place)} {rows : Tab}
theorem Made.perm_nd (M : Made lines places) (h : lines'.Perm lines) : (keys lines').Nodup := (h.map Prod.fst).nodup_iff.mpr M.nd
theorem Made.mem_key (M : Made lines places) (h : lines'.Perm lines) {n : List Nat} : n ∈ keys lines' ↔ n ∈ keys lines := (h.map Prod.fst).mem_iff
theorem Made.small (M : Made lines places) (h : lines'.Perm lines) (hl : lines.length ≤ 100) : SmallL lines' where
  num := by
    have := h.length_eq
    omega
  len := fun n l hm => by
    obtain ⟨ss, _, _, h3, _⟩ := M.st n l (h.mem_iff.mp hm)
    omega
  steps := fun n l ss hm e => by
    obtain ⟨ss', h1, h2, _⟩ := M.st n l (h.mem_iff.mp hm)
    rw [h1] at e
    cases e
    omega
  nd := M.perm_nd h
theorem linesRows_mem (h : LinesRows lines rows) {n : List Nat} {ss : List Step} (hm : (n, ss) ∈ rows) : ∃ l, (n, l) ∈ lines ∧ stepsOf l = some ss := by
  obtain ⟨i, hi⟩ := List.mem_iff_getElem?.mp hm
  obtain ⟨⟨n', l⟩, h1, h2, h3⟩ := paired_getR h hi
  have : n' = n := h2
  subst this
  exact ⟨l, List.mem_of_getElem? h1, h3⟩
theorem Made.closed (M : Made lines places) (h : lines'.Perm lines) (hr : LinesRows lines' rows) : Closed rows := by
  intro n ss hm m hms
  obtain ⟨l, h1, h2⟩ := linesRows_mem hr hm
  obtain ⟨ss', h3, _, _, h4⟩ := M.st n l (h.mem_iff.mp h1)
  rw [h3] at h2
  cases h2
  rw [← LinesRows.keys hr]
  exact (M.mem_key h).mpr (shares_ok h4 hms)
theorem Made.placed (M : Made lines places) (h : lines'.Perm lines) (hr : LinesRows lines' rows) : ∀ n p, look places n = some p → PlaceOf rows n p := by
  obtain ⟨rk, _, h2⟩ := M.rk
  have hkr : (keys rows).Nodup := by rw [← LinesRows.keys hr]; exact M.perm_nd h
  have key : ∀ (k : Nat) (n : List Nat) (p : Place), rk n ≤ k → look places n = some p → PlaceOf rows n p := by
    intro k
    induction k with
    | zero =>
      intro n p hk hp
      have hn : n ∈ keys lines := by rw [← M.kp]; exact List.mem_map.mpr ⟨_, look_mem hp, rfl⟩
      have hn2 : n ∈ keys rows := by rw [← LinesRows.keys hr]; exact (M.mem_key h).mpr hn
      obtain ⟨ss, hss⟩ := look_some_of_key hn2
      obtain ⟨l, h1, h3⟩ := linesRows_mem hr (look_mem hss)
      obtain ⟨a1, a2⟩ := h2 n l ss p (h.mem_iff.mp h1) h3 hp
      refine PlaceOf.new (pl := fun _ => none) (fun n p h => nomatch h) hss ?_
      rw [← a1]
      refine walkP_congr fun m hm => ?_
      have := (a2 m hm).2
      omega
    | succ k ih =>
      intro n p hk hp
      have hn : n ∈ keys lines := by rw [← M.kp]; exact List.mem_map.mpr ⟨_, look_mem hp, rfl⟩
      have hn2 : n ∈ keys rows := by rw [← LinesRows.keys hr]; exact (M.mem_key h).mpr hn
      obtain ⟨ss, hss⟩ := look_some_of_key hn2
      obtain ⟨l, h1, h3⟩ := linesRows_mem hr (look_mem hss)
      obtain ⟨a1, a2⟩ := h2 n l ss p (h.mem_iff.mp h1) h3 hp
      refine PlaceOf.new (pl := fun m => if m ∈ sharesOf ss then look places m else none) (fun m q hq => ?_) hss ?_
      · split at hq
        · rename_i hm
          refine ih m q ?_ hq
          have := (a2 m hm).2
          omega
        · cases hq
      · rw [← a1]
        refine walkP_congr fun m hm => ?_
        rw [if_pos hm]
  exact fun n p hp => key (rk n) n p (Nat.le_refl _) hp
theorem Made.spots {spots : List (List Nat × Place)} (M : Made lines places) (h : lines'.Perm lines) (hr : LinesRows lines' rows) (hs : SpotsOf rows spots) : look spots = look places := by
  funext n
  cases e : look places n with
  | some p =>
    have h1 := M.placed h hr n p e
    obtain ⟨q, hq⟩ := look_some_of_key ((hs.all n).mpr h1.key)
    rw [hq, (hs.ok n q hq).uniq h1]
  | none =>
    have h1 := look_none.mp e
    refine look_none.mpr fun z => h1 ?_
    rw [M.kp]
    refine (M.mem_key h).mp ?_
    rw [LinesRows.keys hr]
    exact (hs.all n).mp z
end
section
variable {K : PySem.W.Frag} {C : Ad} {H : Hp} {Q : VK} {E : XK}
theorem i_mkS {Cl : Addr} {sp : Sp} {E : L2.St → XK} {t : TA} {σ : L2.St} (h : t σ H fun vs H1 => ∀ x dx, H1 x = none → H1 dx = none → dx ≠ x → sp (.ref x :: vs) (upd (upd H1 dx (.own x)) x (.ins Cl dx [])) (fun v H2 => v = .non ∧ Q (.ref x) H2) (E σ)) : tMkS Cl sp E t σ H Q := h
/-- Shares(table) of a drawn table -/
theorem i_init {P : Addr → Hp → Prop} {a : Addr} {lines lines' : List (List Nat × List Nat)} {places : List (List Nat × Place)} (hd : DictM txtR H a lines') (M : Made lines places) (hp : lines'.Perm lines) (hl : lines.length ≤ 100)
    (q : ∀ x spots H', Same H H' → H x = none → SharesAt C H' x (keys lines') spots → SharesNew C H H' x → look spots = look places → Short 300000 spots → P x H') :
    ∀ x dx, H x = none → H dx = none → dx ≠ x → sp_p_Shares_init K C [.ref x, .ref a] (upd (upd H dx (.own x)) x (.ins C.Sh dx [])) (fun v H2 => v = .non ∧ P x H2) E := by
  intro x dx hx hdx hne
  have s1 : Same H (upd (upd H dx (.own x)) x (.ins C.Sh dx [])) := (same_new hdx).trans (same_new (by rw [upd_ne (fun z => hne z.symm)]; exact hx))
  refine ⟨x, a, dx, lines', rfl, upd_same, hd.same txtR_grows s1, M.small hp hl, fun rows spots H' r1 r2 r3 r4 r5 r6 r7 => ⟨rfl, ?_⟩, fun ⟨n, l, h1, h2⟩ => ?_, fun rows r1 r2 => absurd (M.closed hp r1) r2, fun rows r1 r2 ⟨n, hn, hno⟩ => ?_⟩
  · refine q x spots H' (fun b o e => ?_) hx r6 (fun dx' o' s' z => ⟨fresh_back0 s1 (r7 dx' o' s' z).1, fresh_back0 s1 (r7 dx' o' s' z).2⟩) (M.spots hp r1 r3) r4
    exact r5 b o (fun z => by rw [z, hx] at e; cases e) (s1 b o e)
  · obtain ⟨ss, h3, _⟩ := M.st n l (hp.mem_iff.mp h1)
    rw [h2] at h3
    cases h3
  · have h1 : n ∈ keys places := by
      rw [M.kp, ← M.mem_key hp, LinesRows.keys r1]
      exact hn
    obtain ⟨p, hp2⟩ := look_some_of_key h1
    exact absurd (M.placed hp r1 n p hp2) (hno p)
/-- the pair of lines and places that a law draws -/
def MadeAt (H : Hp) (v : V) (lines : List (List Nat × List Nat)) (places : List (List Nat × Place)) (K : PySem.W.Frag) : Prop := ∃ t A B, v = .ref t ∧ SqT K H t [.ref A, .ref B] ∧ DictM txtR H A lines ∧ DictM placeR H B places
theorem MadeAt.same {H H' : Hp} {v : V} {lines : List (List Nat × List Nat)} {places : List (List Nat × Place)} (e : Same H H') (h : MadeAt H v lines places K) : MadeAt H' v lines places K := by
  obtain ⟨t, A, B, rfl, h1, h2, h3⟩ := h
  exact ⟨t, A, B, rfl, Same.sqt e h1, h2.same txtR_grows e, h3.same placeR_grows e⟩
def sp_l_rows_by (K : PySem.W.Frag) (C : Ad) : Sp := fun vs H Q _ => ∃ (a : Addr) (cs : List Int), vs = [.ref a] ∧ SqL K H a (cs.map V.int) ∧ cs.length ≤ 40 ∧ ∀ v H' lines places, Same H H' → MadeAt H' v lines places K → Made lines places → lines.length ≤ cs.length → Q v H'
theorem i_l_rows_by {a : Addr} {cs : List Int} (h : SqL K H a (cs.map V.int)) (hl : cs.length ≤ 40) (q : ∀ v H' lines places, Same H H' → MadeAt H' v lines places K → Made lines places → lines.length ≤ cs.length → Q v H') : sp_l_rows_by K C [.ref a] H Q E := ⟨a, cs, rfl, h, hl, q⟩
def sp_l_rows_by_b (K : PySem.W.Frag) (C : Ad) : Sp := sp_l_rows_by K C
def sp_l_mixed (K : PySem.W.Frag) (C : Ad) : Sp := fun vs H Q _ => ∃ (a : Addr) (c : Int) (lines : List (List Nat × List Nat)), vs = [.ref a, .int c] ∧ DictM txtR H a lines ∧ (keys lines).Nodup ∧ lines.length ≤ 1000 ∧ ∀ p H' lines', Same H H' → H p = none → DictM txtR H' p lines' → lines'.Perm lines → Q (.ref p) H'
theorem i_l_mixed {a : Addr} {c : Int} {lines : List (List Nat × List Nat)} (h : DictM txtR H a lines) (hn : (keys lines).Nodup) (hl : lines.length ≤ 1000) (q : ∀ p H' lines', Same H H' → H p = none → DictM txtR H' p lines' → lines'.Perm lines → Q (.ref p) H') : sp_l_mixed K C [.ref a, .int c] H Q E := ⟨a, c, lines, rfl, h, hn, hl, q⟩
def sp_l_row_of_forty (K : PySem.W.Frag) (C : Ad) : Sp := fun vs H Q _ => vs = [] ∧ ∀ v H' lines places, Same H H' → MadeAt H' v lines places K → Made lines places → lines.length ≤ 40 → Q v H'
theorem i_l_row_of_forty (q : ∀ v H' lines places, Same H H' → MadeAt H' v lines places K → Made lines places → lines.length ≤ 40 → Q v H') : sp_l_row_of_forty K C [] H Q E := ⟨rfl, q⟩
def sp_l_refused (K : PySem.W.Frag) (C : Ad) : Sp := fun vs H Q _ => ∃ (x : Addr) (n : List Nat) (names : List (List Nat)) (spots : List (List Nat × Place)), vs = [.ref x, vS n] ∧ SharesAt C H x names spots ∧ ∀ H', Same H H' → Q (.bl (!decide (n ∈ keys spots))) H'
theorem i_l_refused {x : Addr} {n : List Nat} {names : List (List Nat)} {spots : List (List Nat × Place)} (h : SharesAt C H x names spots) (q : ∀ H', Same H H' → Q (.bl (!decide (n ∈ keys spots))) H') : sp_l_refused K C [.ref x, vS n] H Q E := ⟨x, n, names, spots, rfl, h, q⟩
end
/-- for i, name in enumerate(dict): -/
theorem for_enumD {β : Type} {R : Hp → V → β → Prop} {H : Hp} {d : Addr} {l : List (List Nat × β)} {ta : TA} {g : TG} {tb : TS} {D : Ends} {σ : L2.St} {kvs : List (Key × V)} (ht : ∀ H (Q : List V → Hp → Prop), Q [.ref d] H → ta σ H Q) (h : H d = some (.dK kvs)) (hR : Rows (R H) kvs l) (Pv : Nat → L2.St → Hp → Prop)
    (h0 : ∀ od, Pv 0 σ (upd H d (.frz od (.dK kvs))))
    (hs : ∀ od i n b σ H' T, l[i]? = some (n, b) → Pv i σ H' → H' d = some (.frz od (.dK kvs)) → H' T = none → g (.ref T) σ (upd H' T (.tup [.int (i : Nat), vS n])) fun σ2 H2 => tb ⟨fun σ' H' => Pv (i + 1) σ' H' ∧ H' d = some (.frz od (.dK kvs)), fun v H' => H' d = some (.frz od (.dK kvs)) ∧ D.rt v (upd H' d (.dK kvs)), fun σ' H' => H' d = some (.frz od (.dK kvs)) ∧ D.nx σ' (upd H' d (.dK kvs)), fun σ' H' => Pv (i + 1) σ' H' ∧ H' d = some (.frz od (.dK kvs))⟩ σ2 H2)
    (hd : ∀ od σ H', Pv l.length σ H' → H' d = some (.frz od (.dK kvs)) → D.nx σ (upd H' d (.dK kvs))) :
    tLock (tFor (iEnumD ta) g tb) D σ H := by
  refine ⟨d, .dK kvs, h, trivial, fun od => ?_⟩
  refine i_for ?_
  refine ht _ _ ?_
  refine ⟨d, od, kvs, rfl, upd_same, ?_⟩
  have hlen := paired_len hR
  have hw : Walk (IteD d od kvs) kvs.length (fun H => H d = some (.frz od (.dK kvs))) (fun i H v H' => ∃ T k x, kvs[i]? = some (k, x) ∧ v = .ref T ∧ H T = none ∧ H' = upd H T (.tup [.int (i : Nat), kV k])) :=
    ⟨fun _ _ hi q => ⟨q, hi⟩, fun _ q => ⟨q, Nat.le_refl _⟩, fun _ _ _ _ _ _ y => y⟩
  refine for_it hw (fun i σ H' => Pv i σ H' ∧ H' d = some (.frz od (.dK kvs))) ⟨h0 od, upd_same⟩ (fun i σ H' _ p => p.2) ?_ ?_
  · rintro i x σ H1 H' hi ⟨p, e⟩ ⟨T, k, v, hk, rfl, hT, rfl⟩
    obtain ⟨n, b, h1, rfl, _⟩ := hR.get hk
    exact hs od i n b σ H1 T h1 p e hT
  · rintro σ' H' ⟨p, e⟩
    rw [hlen] at p
    exact ⟨e, hd od σ' H' p e⟩
end Pw

/-! What is left of steps; plain texts. -/
namespace Pw
open PySem PySem.Spec PyProof.Rows L2
structure Left where
  r : Bool
  u : Nat
  ns : Place
def left0 : Left := ⟨false, 0, []⟩
def leftS (pl : List Nat → Option Place) : Step → Left → Option Left
  | .root, _ => some ⟨true, 0, []⟩
  | .share n, _ => (pl n).map fun p => ⟨true, 0, p⟩
  | .name n, l => some ⟨l.r, l.u, l.ns ++ [n]⟩
  | .up, l => some (if l.ns = [] then (if l.r = true then l else ⟨l.r, l.u + 1, l.ns⟩) else ⟨l.r, l.u, l.ns.dropLast⟩)
def leftP (pl : List Nat → Option Place) : List Step → Left → Option Left
  | [], l => some l
  | s :: r, l => (leftS pl s l).bind (leftP pl r)
theorem leftP_app (pl : List Nat → Option Place) : ∀ (a b : List Step) (l : Left), leftP pl (a ++ b) l = (leftP pl a l).bind (leftP pl b)
  | [], b, l => rfl
  | s :: a, b, l => by
    show (leftS pl s l).bind (leftP pl (a ++ b)) = ((leftS pl s l).bind (leftP pl a)).bind (leftP pl b)
    cases leftS pl s l with
    | none => rfl
    | some q => exact leftP_app pl a b q
theorem leftP_take {pl : List Nat → Option Place} {ss : List Step} {i : Nat} {s : Step} {p q : Left} (h : ss[i]? = some s) (e : leftP pl (ss.take i) p = some q) : leftP pl (ss.take (i + 1)) p = leftS pl s q := by
  rw [take_snoc h, leftP_app, e]
  show (leftS pl s q).bind (leftP pl []) = _
  cases leftS pl s q <;> rfl
theorem leftP_fail {pl : List Nat → Option Place} {ss : List Step} {i : Nat} {s : Step} {p y : Left} (h : ss[i]? = some s) (e : leftP pl (ss.take i) p = some y) (e2 : leftS pl s y = none) : leftP pl ss p = none := by
  have es : ss = ss.take (i + 1) ++ ss.drop (i + 1) := (List.take_append_drop _ _).symm
  rw [es, leftP_app, leftP_take h e, e2]
  rfl
theorem leftS_some {pl : List Nat → Option Place} {s : Step} (l : Left) (h : ∀ n, s = .share n → ∃ p, pl n = some p) : ∃ q, leftS pl s l = some q := by
  cases s with
  | root => exact ⟨_, rfl⟩
  | up => exact ⟨_, rfl⟩
  | name n => exact ⟨_, rfl⟩
  | share n =>
    obtain ⟨p, hp⟩ := h n rfl
    exact ⟨⟨true, 0, p⟩, by show (pl n).map _ = _; rw [hp]; rfl⟩
theorem leftP_some {pl : List Nat → Option Place} : ∀ {ss : List Step} (l : Left), (∀ n ∈ sharesOf ss, ∃ p, pl n = some p) → ∃ q, leftP pl ss l = some q
  | [], l, _ => ⟨l, rfl⟩
  | s :: r, l, h => by
    obtain ⟨q, hq⟩ := leftS_some (pl := pl) (s := s) l fun n e => h n (by rw [e]; simp [sharesOf])
    obtain ⟨z, hz⟩ := leftP_some (pl := pl) (ss := r) q fun n hn => h n (by cases s <;> simp [sharesOf, hn])
    exact ⟨z, by show (leftS pl s l).bind (leftP pl r) = some z; rw [hq]; exact hz⟩
theorem leftP_shares {pl : List Nat → Option Place} : ∀ {ss : List Step} {l q : Left}, leftP pl ss l = some q → ∀ n ∈ sharesOf ss, ∃ p, pl n = some p
  | [], _, _, _, n, hn => by cases hn
  | s :: r, l, q, e, n, hn => by
    obtain ⟨z, h1, h2⟩ := Option.bind_eq_some_iff.mp e
    cases s with
    | share m =>
      rcases List.mem_cons.mp hn with rfl | hn
      · obtain ⟨p, hp, _⟩ := Option.map_eq_some_iff.mp h1
        exact ⟨p, hp⟩
      · exact leftP_shares h2 n hn
    | root => exact leftP_shares h2 n hn
    | up => exact leftP_shares h2 n hn
    | name m => exact leftP_shares h2 n hn
/-- what stays true of what is left -/
structure LeftOk (B : Nat) (k : Nat) (l : Left) : Prop where
  ru : l.r = true → l.u = 0
  nm : AllNm l.ns
  len : l.ns.length ≤ B + k
  ul : l.u ≤ k
theorem leftS_ok {pl : List Nat → Option Place} {B k : Nat} (hB : ∀ n p, pl n = some p → AllNm p ∧ p.length ≤ B) {s : Step} {l q : Left} (hs : ∀ n, s = .name n → Nm n) (h : LeftOk B k l) (e : leftS pl s l = some q) : LeftOk B (k + 1) q := by
  have h1 := h.len
  have h2 := h.ul
  cases s with
  | root =>
    cases e
    exact ⟨fun _ => rfl, (fun n hn => nomatch hn), Nat.zero_le _, Nat.zero_le _⟩
  | share n =>
    obtain ⟨p, hp, rfl⟩ := Option.map_eq_some_iff.mp e
    obtain ⟨a, b⟩ := hB n p hp
    exact ⟨fun _ => rfl, a, by show p.length ≤ _; omega, Nat.zero_le _⟩
  | name n =>
    cases e
    refine ⟨h.ru, fun x hx => ?_, by show (l.ns ++ [n]).length ≤ _; simp; omega, by show l.u ≤ _; omega⟩
    rcases List.mem_append.mp hx with z | z
    · exact h.nm x z
    · rw [List.mem_singleton.mp z]
      exact hs n rfl
  | up =>
    cases e
    split
    · split
      · exact ⟨h.ru, h.nm, by omega, by omega⟩
      · rename_i hr
        exact ⟨fun z => absurd z hr, h.nm, by show l.ns.length ≤ _; omega, by show l.u + 1 ≤ _; omega⟩
    · refine ⟨h.ru, fun x hx => h.nm x ((List.dropLast_sublist _).subset hx), ?_, by show l.u ≤ _; omega⟩
      show l.ns.dropLast.length ≤ _
      rw [List.length_dropLast]
      omega
theorem leftP_ok {pl : List Nat → Option Place} {B : Nat} (hB : ∀ n p, pl n = some p → AllNm p ∧ p.length ≤ B) : ∀ {ss : List Step} {k : Nat} {l q : Left}, (∀ n, Step.name n ∈ ss → Nm n) → LeftOk B k l → leftP pl ss l = some q → LeftOk B (k + ss.length) q
  | [], k, l, q, _, h, e => by
    cases e
    exact h
  | s :: r, k, l, q, hs, h, e => by
    obtain ⟨z, h1, h2⟩ := Option.bind_eq_some_iff.mp e
    have := leftP_ok hB (ss := r) (fun n hn => hs n (List.mem_cons_of_mem _ hn)) (leftS_ok hB (fun n e => hs n (by rw [e]; exact List.mem_cons_self)) h h1) h2
    rw [List.length_cons]
    have e2 : k + (r.length + 1) = k + 1 + r.length := by omega
    rw [e2]
    exact this
theorem left0_ok (B : Nat) : LeftOk B 0 left0 := ⟨fun _ => rfl, (fun n hn => nomatch hn), Nat.zero_le _, Nat.le_refl _⟩
def plainL (l : Left) : List Nat := toldL l.r l.u l.ns
/-- the places of the table are of good names and not long -/
def Fine (B : Nat) (spots : List (List Nat × Place)) : Prop := ∀ n p, look spots n = some p → AllNm p ∧ p.length ≤ B
/-- steps that are not many and of good names -/
structure Good (ss : List Step) : Prop where
  num : ss.length ≤ 1500
  nm : ∀ n, Step.name n ∈ ss → Nm n
theorem Good.left {spots : List (List Nat × Place)} {ss : List Step} {l : Left} (h : Good ss) (hf : Fine 2500 spots) (e : leftP (look spots) ss left0 = some l) : AllNm l.ns ∧ l.u + l.ns.length ≤ 6000 ∧ (l.r = true → l.u = 0) := by
  have h1 := leftP_ok hf h.nm (left0_ok 2500) e
  have h2 := h1.len
  have h3 := h1.ul
  have h4 := h.num
  exact ⟨h1.nm, by omega, h1.ru⟩
section
variable {K : PySem.W.Frag} {C : Ad} {H : Hp} {Q : VK} {E : XK}
def sp_p_left_of (K : PySem.W.Frag) (C : Ad) : Sp := fun vs H Q E => ∃ (p x : Addr) (ss : List Step) (names : List (List Nat)) (spots : List (List Nat × Place)), vs = [.ref p, .ref x] ∧ Steps K H p ss ∧ SharesAt C H x names spots ∧ Fine 2500 spots ∧ Good ss ∧
  (∀ l t q H', leftP (look spots) ss left0 = some l → Same H H' → SqT K H' t [.bl l.r, .int (l.u : Int), .ref q] → H' q = some (.lst (l.ns.map vS)) → Q (.ref t) H') ∧ (leftP (look spots) ss left0 = none → ∀ H', Same H H' → E (.ref C.N) none H')
theorem i_p_left_of {p x : Addr} {ss : List Step} {names : List (List Nat)} {spots : List (List Nat × Place)} (h1 : Steps K H p ss) (h2 : SharesAt C H x names spots) (h3 : Fine 2500 spots) (h4 : Good ss)
    (q : ∀ l t q H', leftP (look spots) ss left0 = some l → Same H H' → SqT K H' t [.bl l.r, .int (l.u : Int), .ref q] → H' q = some (.lst (l.ns.map vS)) → Q (.ref t) H') (e : leftP (look spots) ss left0 = none → ∀ H', Same H H' → E (.ref C.N) none H') :
    sp_p_left_of K C [.ref p, .ref x] H Q E := ⟨p, x, ss, names, spots, rfl, h1, h2, h3, h4, q, e⟩
def sp_p_plain_of (K : PySem.W.Frag) (C : Ad) : Sp := fun vs H Q E => ∃ (p x : Addr) (ss : List Step) (names : List (List Nat)) (spots : List (List Nat × Place)), vs = [.ref p, .ref x] ∧ Steps K H p ss ∧ SharesAt C H x names spots ∧ Fine 2500 spots ∧ Good ss ∧
  (∀ l H', leftP (look spots) ss left0 = some l → Same H H' → Q (vS (plainL l)) H') ∧ (leftP (look spots) ss left0 = none → ∀ H', Same H H' → E (.ref C.N) none H')
theorem i_p_plain_of {p x : Addr} {ss : List Step} {names : List (List Nat)} {spots : List (List Nat × Place)} (h1 : Steps K H p ss) (h2 : SharesAt C H x names spots) (h3 : Fine 2500 spots) (h4 : Good ss)
    (q : ∀ l H', leftP (look spots) ss left0 = some l → Same H H' → Q (vS (plainL l)) H') (e : leftP (look spots) ss left0 = none → ∀ H', Same H H' → E (.ref C.N) none H') :
    sp_p_plain_of K C [.ref p, .ref x] H Q E := ⟨p, x, ss, names, spots, rfl, h1, h2, h3, h4, q, e⟩
def GoodLine (l : List Nat) : Prop := l.length ≤ 300000 ∧ ∀ ss, stepsOf l = some ss → ss.length ≤ 700 ∧ ∀ n, Step.name n ∈ ss → Nm n
def sp_p_plain (K : PySem.W.Frag) (C : Ad) : Sp := fun vs H Q E => ∃ (l : List Nat) (x : Addr) (names : List (List Nat)) (spots : List (List Nat × Place)), vs = [vS l, .ref x] ∧ GoodLine l ∧ SharesAt C H x names spots ∧ Fine 2500 spots ∧
  (∀ ss lf H', stepsOf l = some ss → leftP (look spots) ss left0 = some lf → Same H H' → Q (vS (plainL lf)) H') ∧ (stepsOf l = none → ∀ H', Same H H' → E (.ref C.B) none H') ∧ (∀ ss, stepsOf l = some ss → leftP (look spots) ss left0 = none → ∀ H', Same H H' → E (.ref C.N) none H')
theorem i_p_plain {l : List Nat} {x : Addr} {names : List (List Nat)} {spots : List (List Nat × Place)} (h1 : GoodLine l) (h2 : SharesAt C H x names spots) (h3 : Fine 2500 spots) (q : ∀ ss lf H', stepsOf l = some ss → leftP (look spots) ss left0 = some lf → Same H H' → Q (vS (plainL lf)) H')
    (e1 : stepsOf l = none → ∀ H', Same H H' → E (.ref C.B) none H') (e2 : ∀ ss, stepsOf l = some ss → leftP (look spots) ss left0 = none → ∀ H', Same H H' → E (.ref C.N) none H') : sp_p_plain K C [vS l, .ref x] H Q E := ⟨l, x, names, spots, rfl, h1, h2, h3, q, e1, e2⟩
def sp_p_joined (K : PySem.W.Frag) (C : Ad) : Sp := fun vs H Q E => ∃ (l m : List Nat) (x : Addr) (names : List (List Nat)) (spots : List (List Nat × Place)), vs = [vS l, vS m, .ref x] ∧ GoodLine l ∧ GoodLine m ∧ SharesAt C H x names spots ∧ Fine 2500 spots ∧
  (∀ s1 s2 lf H', stepsOf l = some s1 → stepsOf m = some s2 → leftP (look spots) (s1 ++ s2) left0 = some lf → Same H H' → Q (vS (plainL lf)) H') ∧ (stepsOf l = none ∨ stepsOf m = none → ∀ H', Same H H' → E (.ref C.B) none H') ∧
  (∀ s1 s2, stepsOf l = some s1 → stepsOf m = some s2 → leftP (look spots) (s1 ++ s2) left0 = none → ∀ H', Same H H' → E (.ref C.N) none H')
theorem i_p_joined {l m : List Nat} {x : Addr} {names : List (List Nat)} {spots : List (List Nat × Place)} (h1 : GoodLine l) (h1' : GoodLine m) (h2 : SharesAt C H x names spots) (h3 : Fine 2500 spots)
    (q : ∀ s1 s2 lf H', stepsOf l = some s1 → stepsOf m = some s2 → leftP (look spots) (s1 ++ s2) left0 = some lf → Same H H' → Q (vS (plainL lf)) H') (e1 : stepsOf l = none ∨ stepsOf m = none → ∀ H', Same H H' → E (.ref C.B) none H')
    (e2 : ∀ s1 s2, stepsOf l = some s1 → stepsOf m = some s2 → leftP (look spots) (s1 ++ s2) left0 = none → ∀ H', Same H H' → E (.ref C.N) none H') : sp_p_joined K C [vS l, vS m, .ref x] H Q E := ⟨l, m, x, names, spots, rfl, h1, h1', h2, h3, q, e1, e2⟩
def sp_p_same (K : PySem.W.Frag) (C : Ad) : Sp := fun vs H Q E => ∃ (l m : List Nat) (x : Addr) (names : List (List Nat)) (spots : List (List Nat × Place)), vs = [vS l, vS m, .ref x] ∧ GoodLine l ∧ GoodLine m ∧ SharesAt C H x names spots ∧ Fine 2500 spots ∧
  (∀ s1 s2 a b H', stepsOf l = some s1 → stepsOf m = some s2 → leftP (look spots) s1 left0 = some a → leftP (look spots) s2 left0 = some b → Same H H' → Q (.bl (decide (plainL a = plainL b))) H') ∧ (stepsOf l = none ∨ stepsOf m = none → ∀ H', Same H H' → E (.ref C.B) none H') ∧
  (∀ s1 s2, stepsOf l = some s1 → stepsOf m = some s2 → leftP (look spots) s1 left0 = none ∨ leftP (look spots) s2 left0 = none → ∀ H', Same H H' → E (.ref C.N) none H')
theorem i_p_same {l m : List Nat} {x : Addr} {names : List (List Nat)} {spots : List (List Nat × Place)} (h1 : GoodLine l) (h1' : GoodLine m) (h2 : SharesAt C H x names spots) (h3 : Fine 2500 spots)
    (q : ∀ s1 s2 a b H', stepsOf l = some s1 → stepsOf m = some s2 → leftP (look spots) s1 left0 = some a → leftP (look spots) s2 left0 = some b → Same H H' → Q (.bl (decide (plainL a = plainL b))) H') (e1 : stepsOf l = none ∨ stepsOf m = none → ∀ H', Same H H' → E (.ref C.B) none H')
    (e2 : ∀ s1 s2, stepsOf l = some s1 → stepsOf m = some s2 → leftP (look spots) s1 left0 = none ∨ leftP (look spots) s2 left0 = none → ∀ H', Same H H' → E (.ref C.N) none H') : sp_p_same K C [vS l, vS m, .ref x] H Q E := ⟨l, m, x, names, spots, rfl, h1, h1', h2, h3, q, e1, e2⟩
def sp_l_ups_by (K : PySem.W.Frag) (C : Ad) : Sp := fun vs H Q _ => ∃ c : Int, vs = [.int c] ∧ ∀ v H' l ss, Same H H' → PathAt K H' v l ss → Drawn [] 110 l ss → Q v H'
theorem i_l_ups_by {c : Int} (q : ∀ v H' l ss, Same H H' → PathAt K H' v l ss → Drawn [] 110 l ss → Q v H') : sp_l_ups_by K C [.int c] H Q E := ⟨c, rfl, q⟩
def sp_l_due_plain (K : PySem.W.Frag) (C : Ad) : Sp := fun vs H Q _ => ∃ (p d : Addr) (ss : List Step) (places : List (List Nat × Place)) (l : Left), vs = [.ref p, .ref d] ∧ Steps K H p ss ∧ DictM placeR H d places ∧ Fine 2500 places ∧ Good ss ∧ leftP (look places) ss left0 = some l ∧ ∀ H', Same H H' → Q (vS (plainL l)) H'
theorem i_l_due_plain {p d : Addr} {ss : List Step} {places : List (List Nat × Place)} {l : Left} (h1 : Steps K H p ss) (h2 : DictM placeR H d places) (h3 : Fine 2500 places) (h4 : Good ss) (h5 : leftP (look places) ss left0 = some l) (q : ∀ H', Same H H' → Q (vS (plainL l)) H') :
    sp_l_due_plain K C [.ref p, .ref d] H Q E := ⟨p, d, ss, places, l, rfl, h1, h2, h3, h4, h5, q⟩
end
end Pw

/-! Lines with something bad in them (k07). -/
namespace Pw
open PySem PySem.Spec PyProof.Rows L2
def dueT (b : Nat) : List Nat := if 2 ≤ b then [101, 115, 99, 97, 112, 101, 32, 118, 97, 108, 117, 101] else if b = 1 then [115, 104, 97, 114, 101, 32, 118, 97, 108, 117, 101] else [110, 111, 110, 101]
theorem dueT_two {b : Nat} (h : 2 ≤ b) : dueT b = [101, 115, 99, 97, 112, 101, 32, 118, 97, 108, 117, 101] := if_pos h
/-- what stands in a line: 0 nothing bad, 1 a share that is not there, 2 or 3 an escape that is none -/
structure Bits (pl : List Nat → Option Place) (l : List Nat) (b : Nat) : Prop where
  le : b ≤ 3
  good : GoodLine l
  ok : b = 0 → ∃ ss, stepsOf l = some ss ∧ ∀ n ∈ sharesOf ss, ∃ p, pl n = some p
  sh : b = 1 → ∃ ss, stepsOf l = some ss ∧ ∃ n ∈ sharesOf ss, pl n = none
  es : 2 ≤ b → stepsOf l = none
section
variable {pl : List Nat → Option Place} {l : List Nat} {b : Nat}
theorem Bits.two (h : Bits pl l b) (e : stepsOf l = none) : 2 ≤ b := by
  by_cases h0 : b = 0
  · obtain ⟨ss, h1, _⟩ := h.ok h0
    rw [e] at h1
    cases h1
  · by_cases h1 : b = 1
    · obtain ⟨ss, h2, _⟩ := h.sh h1
      rw [e] at h2
      cases h2
    · omega
theorem Bits.zero {ss : List Step} (h : Bits pl l b) (e : stepsOf l = some ss) (k : ∀ n ∈ sharesOf ss, ∃ p, pl n = some p) : b = 0 := by
  by_cases h1 : b = 1
  · obtain ⟨s2, h2, n, hn, hp⟩ := h.sh h1
    rw [e] at h2
    cases h2
    obtain ⟨p, hp2⟩ := k n hn
    rw [hp] at hp2
    cases hp2
  · by_cases h2 : 2 ≤ b
    · rw [h.es h2] at e
      cases e
    · omega
theorem Bits.one {ss : List Step} (h : Bits pl l b) (e : stepsOf l = some ss) (k : ¬ ∀ n ∈ sharesOf ss, ∃ p, pl n = some p) : b = 1 := by
  by_cases h0 : b = 0
  · obtain ⟨s2, h2, h3⟩ := h.ok h0
    rw [e] at h2
    cases h2
    exact absurd h3 k
  · by_cases h2 : 2 ≤ b
    · rw [h.es h2] at e
      cases e
    · omega
end
section
variable {K : PySem.W.Frag} {C : Ad} {H : Hp} {Q : VK} {E : XK}
def sp_l_due (K : PySem.W.Frag) (C : Ad) : Sp := fun vs H Q _ => ∃ b : Nat, vs = [.int (b : Int)] ∧ b ≤ 3 ∧ ∀ H', Same H H' → Q (vS (dueT b)) H'
theorem i_l_due {z : Int} {b : Nat} (e : z = (b : Int)) (h : b ≤ 3) (q : ∀ H', Same H H' → Q (vS (dueT b)) H') : sp_l_due K C [.int z] H Q E := ⟨b, by rw [e], h, q⟩
def sp_l_put (K : PySem.W.Frag) (C : Ad) : Sp := fun vs H Q _ => ∃ (l p : List Nat) (c : Int), vs = [vS l, vS p, .int c] ∧ l.length ≤ 100000 ∧ p.length ≤ 100000 ∧ ∀ k H', Same H H' → Q (vS (joinS ((splitS l).take k ++ [p] ++ (splitS l).drop k))) H'
theorem i_l_put {l p : List Nat} {c : Int} (h1 : l.length ≤ 100000) (h2 : p.length ≤ 100000) (q : ∀ k H', Same H H' → Q (vS (joinS ((splitS l).take k ++ [p] ++ (splitS l).drop k))) H') : sp_l_put K C [vS l, vS p, .int c] H Q E := ⟨l, p, c, rfl, h1, h2, q⟩
def sp_l_word (K : PySem.W.Frag) (C : Ad) : Sp := fun vs H Q _ => ∃ (t : Nat) (l m : List Nat) (x : Addr) (b c : Nat) (names : List (List Nat)) (spots : List (List Nat × Place)), vs = [.int (t : Int), vS l, vS m, .ref x] ∧ t < 4 ∧ Bits (look spots) l b ∧ Bits (look spots) m c ∧ SharesAt C H x names spots ∧ Fine 2500 spots ∧
  ∀ H', Same H H' → Q (vS (dueT (if t < 2 then b else max b c))) H'
theorem i_l_word {z : Int} {t : Nat} {l m : List Nat} {x : Addr} {b c : Nat} {names : List (List Nat)} {spots : List (List Nat × Place)} (e : z = (t : Int)) (ht : t < 4) (h1 : Bits (look spots) l b) (h2 : Bits (look spots) m c) (hx : SharesAt C H x names spots) (hf : Fine 2500 spots)
    (q : ∀ H', Same H H' → Q (vS (dueT (if t < 2 then b else max b c))) H') : sp_l_word K C [.int z, vS l, vS m, .ref x] H Q E := ⟨t, l, m, x, b, c, names, spots, by rw [e], ht, h1, h2, hx, hf, q⟩
end
/-- what is known of the classes of exceptions -/
structure FxW (K : PySem.W.Frag) (C : Ad) : Prop where
  eB : ExcC K C.B
  eN : ExcC K C.N
  m_B_P : PySem.W.exmOne K (.ref C.B) (.ref C.P) = some true
  m_N_P : PySem.W.exmOne K (.ref C.N) (.ref C.P) = some true
  k_B_B : PySem.W.kitOne K (.ref C.B) (.ref C.B) = some true
  k_B_N : PySem.W.kitOne K (.ref C.B) (.ref C.N) = some false
  k_B_V : PySem.W.kitOne K (.ref C.B) (.type "ValueError") = some true
  k_N_B : PySem.W.kitOne K (.ref C.N) (.ref C.B) = some false
  k_N_N : PySem.W.kitOne K (.ref C.N) (.ref C.N) = some true
  k_N_V : PySem.W.kitOne K (.ref C.N) (.type "ValueError") = some true
end Pw

/-! Shares that hang on themselves: plain facts (k06). -/
namespace Pw
open PySem PySem.Spec PyProof.Rows L2
theorem nodup_sub_len {α : Type} [DecidableEq α] : ∀ {ks l : List α}, ks.Nodup → (∀ x ∈ ks, x ∈ l) → ks.length ≤ l.length
  | [], l, _, _ => Nat.zero_le _
  | a :: t, l, hn, hs => by
    have ha : a ∈ l := hs a List.mem_cons_self
    obtain ⟨h1, h2⟩ := List.nodup_cons.mp hn
    have ih := nodup_sub_len (ks := t) (l := l.erase a) h2 fun x hx => by
      have hxa : x ≠ a := fun z => h1 (by rw [← z]; exact hx)
      exact (List.mem_erase_of_ne hxa).mpr (hs x (List.mem_cons_of_mem _ hx))
    rw [List.length_erase_of_mem ha] at ih
    have : 0 < l.length := List.length_pos_of_mem ha
    rw [List.length_cons]
    omega
theorem pigeon {α : Type} [DecidableEq α] : ∀ (n : Nat) (l : List α) (u : Nat → α), l.length = n → (∀ i, i ≤ n → u i ∈ l) → ∃ i j, i < j ∧ j ≤ n ∧ u i = u j
  | 0, l, u, hl, h => by
    have h0 := h 0 (Nat.le_refl _)
    have : l = [] := List.length_eq_zero_iff.mp hl
    rw [this] at h0
    cases h0
  | n + 1, l, u, hl, h => by
    by_cases z : ∃ i, i < n + 1 ∧ u i = u (n + 1)
    · obtain ⟨i, h1, h2⟩ := z
      exact ⟨i, n + 1, h1, Nat.le_refl _, h2⟩
    · have hm := h (n + 1) (Nat.le_refl _)
      obtain ⟨i, j, h1, h2, h3⟩ := pigeon n (l.erase (u (n + 1))) u (by rw [List.length_erase_of_mem hm]; omega) fun i hi => by
        have hne : u i ≠ u (n + 1) := fun e => z ⟨i, by omega, e⟩
        exact (List.mem_erase_of_ne hne).mpr (h i (by omega))
      exact ⟨i, j, h1, by omega, h3⟩
/-- a path of k + 1 wants -/
def pth (w : List Nat → List (List Nat)) : Nat → List Nat → List Nat → Prop
  | 0, a, b => b ∈ w a
  | k + 1, a, b => ∃ s, pth w k a s ∧ b ∈ w s
theorem pth_cat {w : List Nat → List (List Nat)} {a b : List Nat} {k : Nat} (h : pth w k a b) : ∀ {j : Nat} {c : List Nat}, pth w j b c → ∃ m, m ≤ k + j + 1 ∧ pth w m a c
  | 0, c, h2 => ⟨k + 1, by omega, b, h, h2⟩
  | j + 1, c, ⟨s, h2, h3⟩ => by
    obtain ⟨m, h4, h5⟩ := pth_cat h h2
    exact ⟨m + 1, by omega, s, h5, h3⟩
def wantsOf (rows : Tab) (n : List Nat) : List (List Nat) := sharesOf ((look rows n).getD [])
theorem placeF_want {rows : Tab} {j : Nat} {a b : List Nat} {p : Place} (h : placeF rows j a = some p) (hb : b ∈ wantsOf rows a) : ∃ j', j' < j ∧ ∃ q, placeF rows j' b = some q := by
  cases j with
  | zero => cases h
  | succ j =>
    rw [placeF] at h
    unfold wantsOf at hb
    cases e : look rows a with
    | none =>
      rw [e] at h
      cases h
    | some ss =>
      rw [e] at h hb
      obtain ⟨q, hq⟩ := walkP_shares h b hb
      exact ⟨j, Nat.lt_succ_self _, q, hq⟩
theorem placeF_pth {rows : Tab} {a : List Nat} {j : Nat} {p : Place} (h : placeF rows j a = some p) : ∀ {k : Nat} {b : List Nat}, pth (wantsOf rows) k a b → ∃ j', j' < j ∧ ∃ q, placeF rows j' b = some q
  | 0, b, hb => placeF_want h hb
  | k + 1, b, ⟨s, h1, h2⟩ => by
    obtain ⟨j1, e1, q1, f1⟩ := placeF_pth h h1
    obtain ⟨j2, e2, q2, f2⟩ := placeF_want f1 h2
    exact ⟨j2, by omega, q2, f2⟩
/-- what comes to itself has no place -/
theorem ring_none {rows : Tab} {a : List Nat} {k : Nat} (h : pth (wantsOf rows) k a a) : ∀ p, ¬ PlaceOf rows a p := by
  have key : ∀ j p, ¬ placeF rows j a = some p := by
    intro j
    induction j using Nat.strongRecOn with
    | _ j ih =>
      intro p e
      obtain ⟨j', h1, q, h2⟩ := placeF_pth e h
      exact ih j' h1 q h2
  rintro p ⟨j, e⟩
  exact key j p e
theorem pth_seq {w : List Nat → List (List Nat)} {u : Nat → List Nat} (h : ∀ i, u (i + 1) ∈ w (u i)) : ∀ k i, pth w k (u i) (u (i + k + 1))
  | 0, i => h i
  | k + 1, i => ⟨u (i + k + 1), pth_seq h k i, h (i + k + 1)⟩
/-- where nothing comes to itself all have a place -/
theorem noring_all {rows : Tab} (hc : Closed rows) (h : ∀ a ∈ keys rows, ∀ k, k ≤ rows.length → ¬ pth (wantsOf rows) k a a) : ∀ n ∈ keys rows, ∃ p, PlaceOf rows n p := by
  intro n hn
  by_cases z : ∃ p, PlaceOf rows n p
  · exact z
  exfalso
  have step : ∀ a : { a : List Nat // a ∈ keys rows ∧ ¬ ∃ p, PlaceOf rows a p }, ∃ b : { a : List Nat // a ∈ keys rows ∧ ¬ ∃ p, PlaceOf rows a p }, b.1 ∈ wantsOf rows a.1 := by
    rintro ⟨a, h1, h2⟩
    obtain ⟨ss, hss⟩ := look_some_of_key h1
    have hw : wantsOf rows a = sharesOf ss := by
      unfold wantsOf
      rw [hss]
      rfl
    by_cases y : ∀ m ∈ sharesOf ss, ∃ p, PlaceOf rows m p
    · exfalso
      have ch : ∃ pl : List Nat → Option Place, (∀ m p, pl m = some p → PlaceOf rows m p) ∧ ∀ m ∈ sharesOf ss, ∃ p, pl m = some p := by
        refine ⟨fun m => open Classical in if h : ∃ p, PlaceOf rows m p then some h.choose else none, fun m p e => ?_, fun m hm => ?_⟩
        · dsimp only at e
          split at e
          · rename_i hx
            cases e
            exact hx.choose_spec
          · cases e
        · have hx := y m hm
          exact ⟨hx.choose, by dsimp only; rw [dif_pos hx]⟩
      obtain ⟨pl, c1, c2⟩ := ch
      obtain ⟨q, hq⟩ := walkP_some (pl := pl) (ss := ss) [] c2
      exact h2 ⟨q, PlaceOf.new c1 hss hq⟩
    · have : ∃ m, m ∈ sharesOf ss ∧ ¬ ∃ p, PlaceOf rows m p := by
        apply Classical.byContradiction
        intro x
        exact y fun m hm => Classical.byContradiction fun w => x ⟨m, hm, w⟩
      obtain ⟨m, h3, h4⟩ := this
      exact ⟨⟨m, hc a ss (look_mem hss) m h3, h4⟩, by rw [hw]; exact h3⟩
  let f := fun a => (step a).choose
  let u : Nat → { a : List Nat // a ∈ keys rows ∧ ¬ ∃ p, PlaceOf rows a p } := fun i => Nat.rec ⟨n, hn, z⟩ (fun _ a => f a) i
  have hu : ∀ i, (u (i + 1)).1 ∈ wantsOf rows (u i).1 := fun i => (step (u i)).choose_spec
  obtain ⟨i, j, h1, h2, h3⟩ := pigeon rows.length (keys rows) (fun i => (u i).1) (keys_len rows) fun i _ => (u i).2.1
  have hp := pth_seq (u := fun i => (u i).1) hu (j - i - 1) i
  have e : i + (j - i - 1) + 1 = j := by omega
  rw [e] at hp
  have h3 : (u i).1 = (u j).1 := h3
  have hp : pth (wantsOf rows) (j - i - 1) (u i).1 (u j).1 := hp
  rw [← h3] at hp
  exact h (u i).1 (u i).2.1 (j - i - 1) (by omega) hp
/-! sets of names as dicts -/
def bk (ks : List (List Nat)) : List (Key × V) := ks.map fun k => (kS k, V.bl true)
def addK (ks : List (List Nat)) (k : List Nat) : List (List Nat) := if k ∈ ks then ks else ks ++ [k]
theorem mem_addK {ks : List (List Nat)} {k x : List Nat} : x ∈ addK ks k ↔ x ∈ ks ∨ x = k := by
  unfold addK
  split
  · rename_i h
    constructor
    · exact .inl
    · rintro (z | rfl)
      · exact z
      · exact h
  · simp
theorem addK_nodup {ks : List (List Nat)} {k : List Nat} (h : ks.Nodup) : (addK ks k).Nodup := by
  unfold addK
  split
  · exact h
  · rename_i hk
    rw [List.nodup_append]
    refine ⟨h, by simp, fun a ha b hb e => hk ?_⟩
    rw [List.mem_singleton.mp hb] at e
    rw [← e]
    exact ha
theorem bk_rows (ks : List (List Nat)) : Rows (fun v (_ : Unit) => v = V.bl true) (bk ks) (ks.map fun k => (k, ())) := by
  induction ks with
  | nil => exact .nil
  | cons k r ih => exact .cons ⟨rfl, rfl⟩ ih
theorem keys_unit (ks : List (List Nat)) : keys (ks.map fun k => (k, ())) = ks := by
  unfold keys
  rw [List.map_map]
  exact List.map_id' _
theorem putK_bk (ks : List (List Nat)) (k : List Nat) : putK (bk ks) (kS k) (.bl true) = bk (addK ks k) := by
  have hs := (bk_rows ks).isSome k
  rw [keys_unit] at hs
  unfold addK putK
  rw [valV_any, hs]
  by_cases h : k ∈ ks
  · rw [decide_eq_true h, if_pos rfl, if_pos h]
    unfold bk
    rw [List.map_map]
    refine List.map_congr_left fun x _ => ?_
    show (if kS x = kS k then (kS x, V.bl true) else (kS x, V.bl true)) = _
    split <;> rfl
  · rw [decide_eq_false h, if_neg Bool.false_ne_true, if_neg h]
    unfold bk
    rw [List.map_append]
    rfl
theorem mergeK_bk : ∀ (l ks : List (List Nat)), mergeK (bk ks) (l.map fun k => (kS k, V.bl true)) = bk (l.foldl addK ks)
  | [], ks => rfl
  | k :: r, ks => by
    show mergeK (putK (bk ks) (kS k) (.bl true)) (r.map _) = _
    rw [putK_bk, mergeK_bk r]
    rfl
theorem mem_foldl_addK : ∀ {l ks : List (List Nat)} {x : List Nat}, x ∈ l.foldl addK ks ↔ x ∈ ks ∨ x ∈ l
  | [], ks, x => by simp
  | k :: r, ks, x => by
    rw [List.foldl_cons, mem_foldl_addK, mem_addK]
    simp [or_assoc]
theorem foldl_addK_nodup : ∀ {l ks : List (List Nat)}, ks.Nodup → (l.foldl addK ks).Nodup
  | [], _, h => h
  | _ :: r, _, h => foldl_addK_nodup (l := r) (addK_nodup h)
theorem swap_same {β : Type} {l : List (List Nat × β)} {n : List Nat} {b : β} (hn : (keys l).Nodup) (h : look l n = some b) : swap l n b = l := by
  unfold swap
  conv => rhs; rw [← List.map_id l]
  refine List.map_congr_left fun p hp => ?_
  split
  · rename_i e
    have := look_of_mem hn (show (p.1, p.2) ∈ l from hp)
    rw [e, h] at this
    cases this
    rfl
  · rfl
end Pw

/-! Promises: tables refused (k06). -/
namespace Pw
open PySem PySem.Spec PyProof.Rows L2
/-- str(n) from -1 on -/
def qStrZ : List V → Hp → VK → Prop := fun xs H Q => ∃ z : Int, xs = [.int z] ∧ -1 ≤ z ∧ z < 94 ∧ Q (vS (if z = -1 then [45, 49] else numS z.toNat)) H
theorem i_strZ {z : Int} {H : Hp} {Q : VK} (h : -1 ≤ z ∧ z < 94) (q : Q (vS (if z = -1 then [45, 49] else numS z.toNat)) H) : qStrZ [.int z] H Q := ⟨z, rfl, h.1, h.2, q⟩
theorem call_strZ {X : Cx} : CallR X (.type "str") qStrZ := callI call_str_int (by
  rintro xs H Q ⟨z, rfl, h1, h2, q⟩
  by_cases e : z = -1
  · subst e
    refine ⟨-1, rfl, by decide, ?_⟩
    rw [if_pos rfl] at q
    have e2 : Str.ofString (toString (-1 : Int)) = S [45, 49] := by decide +kernel
    rw [e2]
    exact q
  · rw [if_neg e] at q
    obtain ⟨n, rfl⟩ : ∃ n : Nat, z = (n : Int) := ⟨z.toNat, by omega⟩
    rw [Int.toNat_natCast] at q
    have hn : n < 94 := by omega
    refine ⟨n, rfl, ?_, ?_⟩
    · have : ∀ n < 94, ((n : Nat) : Int).natAbs.log2 < 1920 := by decide
      exact this n hn
    · rw [numS_str n hn]
      exact q)
def qLenD : List V → Hp → VK → Prop := fun xs H Q => ∃ a kvs, xs = [V.ref a] ∧ H a = some (.dK kvs) ∧ Q (.int (kvs.length : Nat)) H
def qDictP (K : PySem.W.Frag) : List V → Hp → VK → Prop := fun xs H Q => ∃ (a : Addr) (ps : List Addr) (kvs : List (Key × V)), xs = [.ref a] ∧ SqL K H a (ps.map V.ref) ∧ Paired (fun p kv => SqT K H p [kV kv.1, kv.2]) ps kvs ∧ ∀ p, H p = none → Q (.ref p) (upd H p (.dK (mergeK [] kvs)))
theorem i_isList {K : PySem.W.Frag} {H : Hp} {Q : VK} {a : Addr} {xs : List V} (h : H a = some (.lst xs)) (q : Q (.bl true) H) : rIsi K [.ref a, .ty "list"] H Q := ⟨_, _, .type "list", .type "list", true, rfl, .ty _, .base (.lst h), kit_ty (by decide +kernel), q⟩
theorem inV_S (n : List Nat) (ns : List (List Nat)) : inV (vS n) (ns.map vS) = decide (n ∈ ns) := by
  induction ns with
  | nil => rfl
  | cons m r ih =>
    show (eqV (vS m) (vS n) || inV (vS n) (r.map vS)) = _
    rw [ih]
    have e : eqV (vS m) (vS n) = decide (n = m) := by
      show (S m == S n) = _
      by_cases h : n = m
      · rw [h, decide_eq_true rfl]
        simp
      · rw [decide_eq_false h]
        have : S m ≠ S n := fun z => h (S_inj z).symm
        simpa using this
    rw [e]
    simp
theorem flat_S (ns : List (List Nat)) : (ns.map vS).all flatV = true := by
  rw [List.all_eq_true]
  intro v hv
  obtain ⟨n, _, rfl⟩ := List.mem_map.mp hv
  rfl
theorem i_inT {K : PySem.W.Frag} {H : Hp} {Q : VK} {p : Addr} {n : List Nat} {ns : List (List Nat)} (h : SqL K H p (ns.map vS)) (q : Q (.bl (decide (n ∈ ns))) H) : rIn K false (vS n) (.ref p) H Q := ⟨p, _, rfl, .inl h, rfl, flat_S ns, by
  rw [inV_S]
  exact q⟩
theorem i_niT {K : PySem.W.Frag} {H : Hp} {Q : VK} {p : Addr} {n : List Nat} {ns : List (List Nat)} (h : SqL K H p (ns.map vS)) (q : Q (.bl (!decide (n ∈ ns))) H) : rIn K true (vS n) (.ref p) H Q := ⟨p, _, rfl, .inl h, rfl, flat_S ns, by
  rw [inV_S]
  exact q⟩
def madeT : List Nat := [109, 97, 100, 101]
def oddT (o : Nat) : List Nat := if o = 2 then [101, 115, 99, 97, 112, 101] else if o = 1 then [115, 104, 97, 114, 101] else [109, 97, 100, 101]
def escT : List Nat := [101, 115, 99, 97, 112, 101, 32, 118, 97, 108, 117, 101]
def shareT : List Nat := [115, 104, 97, 114, 101, 32, 118, 97, 108, 117, 101]
def ringT : List Nat := [114, 105, 110, 103, 32, 118, 97, 108, 117, 101]
/-- a path as k06 draws it, and what is odd in it -/
structure PathOdd (names : List (List Nat)) (l : List Nat) (ms : List Step) (o : Nat) : Prop where
  ok : ∀ s ∈ ms, StepOk names s
  num : ms.length ≤ 6
  len : l.length ≤ 1000
  le : o ≤ 2
  made : o = 0 → stepsOf l = some ms
  share : o = 1 → ∃ ss, stepsOf l = some ss ∧ ∃ n ∈ sharesOf ss, n ∉ names
  esc : o = 2 → stepsOf l = none
  few : ∀ ss, stepsOf l = some ss → ss.length ≤ 500
/-- what a table's making says -/
structure SaidOk (lines : List (List Nat × List Nat)) (H : Hp) (Q : VK) : Prop where
  esc : (∃ n l, (n, l) ∈ lines ∧ stepsOf l = none) → ∀ H', Q (vS escT) H'
  share : ∀ rows, LinesRows lines rows → ¬ Closed rows → ∀ H', Q (vS shareT) H'
  ring : ∀ rows, LinesRows lines rows → Closed rows → (∃ n ∈ keys rows, ∀ p, ¬ PlaceOf rows n p) → ∀ H', Q (vS ringT) H'
  made : ∀ rows, LinesRows lines rows → Closed rows → (∀ n ∈ keys rows, ∃ p, PlaceOf rows n p) → ∀ H', Same H H' → Q (vS madeT) H'
section
variable {K : PySem.W.Frag} {C : Ad} {H : Hp} {Q : VK} {E : XK}
def fortyL (b : Bool) : List (List Nat × List Nat) := (List.range 40).map fun k => (115 :: numS k, if k = 0 then (if b = true then [64, 115, 51, 57] else [47, 98]) else [97, 47, 64, 115] ++ numS (k - 1))
def sp_l_row_of_forty_k06 (K : PySem.W.Frag) (C : Ad) : Sp := fun vs H Q _ => ∃ b : Bool, vs = [.bl b] ∧ ∀ p H', Same H H' → DictM txtR H' p (fortyL b) → Q (.ref p) H'
theorem i_l_row_of_forty_k06 {b : Bool} (q : ∀ p H', Same H H' → DictM txtR H' p (fortyL b) → Q (.ref p) H') : sp_l_row_of_forty_k06 K C [.bl b] H Q E := ⟨b, rfl, q⟩
def sp_l_said (K : PySem.W.Frag) (C : Ad) : Sp := fun vs H Q _ => ∃ (t : Addr) (lines : List (List Nat × List Nat)), vs = [.ref t] ∧ DictM txtR H t lines ∧ SmallL lines ∧ SaidOk lines H Q
theorem i_l_said {t : Addr} {lines : List (List Nat × List Nat)} (h1 : DictM txtR H t lines) (h2 : SmallL lines) (q : SaidOk lines H Q) : sp_l_said K C [.ref t] H Q E := ⟨t, lines, rfl, h1, h2, q⟩
def sp_l_path_of (K : PySem.W.Frag) (C : Ad) : Sp := fun vs H Q _ => ∃ (c : Int) (N : Addr) (names : List (List Nat)), vs = [.int c, .ref N] ∧ SqL K H N (names.map vS) ∧ (∀ n ∈ names, Nm n) ∧ 0 < names.length ∧ names.length ≤ 6 ∧
  ∀ t p H' l ms o, Same H H' → SqT K H' t [vS l, .ref p, vS (oddT o)] → Steps K H' p ms → H p = none → PathOdd names l ms o → Q (.ref t) H'
theorem i_l_path_of {c : Int} {N : Addr} {names : List (List Nat)} (h1 : SqL K H N (names.map vS)) (h2 : ∀ n ∈ names, Nm n) (h3 : 0 < names.length) (h4 : names.length ≤ 6)
    (q : ∀ t p H' l ms o, Same H H' → SqT K H' t [vS l, .ref p, vS (oddT o)] → Steps K H' p ms → H p = none → PathOdd names l ms o → Q (.ref t) H') : sp_l_path_of K C [.int c, .ref N] H Q E := ⟨c, N, names, rfl, h1, h2, h3, h4, q⟩
def wOf (wants : List (List Nat × Place)) (n : List Nat) : List (List Nat) := (look wants n).getD []
def sp_l_rings (K : PySem.W.Frag) (C : Ad) : Sp := fun vs H Q _ => ∃ (d : Addr) (wants : List (List Nat × Place)), vs = [.ref d] ∧ DictM placeR H d wants ∧ (keys wants).Nodup ∧ wants.length ≤ 6 ∧ (∀ n ws, look wants n = some ws → ws.length ≤ 10 ∧ ∀ m ∈ ws, m ∈ keys wants) ∧
  ∀ b H', Same H H' → (b = true → ∃ a ∈ keys wants, ∃ k, pth (wOf wants) k a a) → (b = false → ∀ a ∈ keys wants, ∀ k, k ≤ wants.length → ¬ pth (wOf wants) k a a) → Q (.bl b) H'
theorem i_l_rings {d : Addr} {wants : List (List Nat × Place)} (h1 : DictM placeR H d wants) (h2 : (keys wants).Nodup) (h3 : wants.length ≤ 6) (h4 : ∀ n ws, look wants n = some ws → ws.length ≤ 10 ∧ ∀ m ∈ ws, m ∈ keys wants)
    (q : ∀ b H', Same H H' → (b = true → ∃ a ∈ keys wants, ∃ k, pth (wOf wants) k a a) → (b = false → ∀ a ∈ keys wants, ∀ k, k ≤ wants.length → ¬ pth (wOf wants) k a a) → Q (.bl b) H') : sp_l_rings K C [.ref d] H Q E := ⟨d, wants, rfl, h1, h2, h3, h4, q⟩
/-- a table whose shares all have a place -/
structure AllPl (rows : Tab) : Prop where
  small : Small rows
  closed : Closed rows
  all : ∀ n ∈ keys rows, ∃ p, PlaceOf rows n p
  len : rows.length ≤ 100
def sp_l_places (K : PySem.W.Frag) (C : Ad) : Sp := fun vs H Q _ => ∃ (r : Addr) (rows : Tab), vs = [.ref r] ∧ DictM (stepsR K) H r rows ∧ AllPl rows ∧ ∀ q H' spots, Same H H' → H q = none → DictM placeR H' q spots → (∀ n ∈ keys rows, ∃ p, look spots n = some p ∧ PlaceOf rows n p) → Q (.ref q) H'
theorem i_l_places {r : Addr} {rows : Tab} (h1 : DictM (stepsR K) H r rows) (h2 : AllPl rows) (q : ∀ q H' spots, Same H H' → H q = none → DictM placeR H' q spots → (∀ n ∈ keys rows, ∃ p, look spots n = some p ∧ PlaceOf rows n p) → Q (.ref q) H') : sp_l_places K C [.ref r] H Q E := ⟨r, rows, rfl, h1, h2, q⟩
def sp_l_stand (K : PySem.W.Frag) (C : Ad) : Sp := fun vs H Q _ => ∃ (t r : Addr) (lines : List (List Nat × List Nat)) (rows : Tab), vs = [.ref t, .ref r] ∧ DictM txtR H t lines ∧ DictM (stepsR K) H r rows ∧ SmallL lines ∧ LinesRows lines rows ∧ AllPl rows ∧ (∀ n ss, (n, ss) ∈ rows → ∀ m, Step.name m ∈ ss → Nm m) ∧ ∀ H', Same H H' → Q (.bl true) H'
theorem i_l_stand {t r : Addr} {lines : List (List Nat × List Nat)} {rows : Tab} (h1 : DictM txtR H t lines) (h2 : DictM (stepsR K) H r rows) (h3 : SmallL lines) (h4 : LinesRows lines rows) (h5 : AllPl rows) (h6 : ∀ n ss, (n, ss) ∈ rows → ∀ m, Step.name m ∈ ss → Nm m) (q : ∀ H', Same H H' → Q (.bl true) H') : sp_l_stand K C [.ref t, .ref r] H Q E := ⟨t, r, lines, rows, rfl, h1, h2, h3, h4, h5, h6, q⟩
end
/-- what is known of the classes of exceptions -/
structure FxV (K : PySem.W.Frag) (C : Ad) : Prop where
  eB : ExcC K C.B
  eN : ExcC K C.N
  eR : ExcC K C.R
  m_B_P : PySem.W.exmOne K (.ref C.B) (.ref C.P) = some true
  m_N_P : PySem.W.exmOne K (.ref C.N) (.ref C.P) = some true
  m_R_P : PySem.W.exmOne K (.ref C.R) (.ref C.P) = some true
  k_B_B : PySem.W.kitOne K (.ref C.B) (.ref C.B) = some true
  k_B_N : PySem.W.kitOne K (.ref C.B) (.ref C.N) = some false
  k_B_R : PySem.W.kitOne K (.ref C.B) (.ref C.R) = some false
  k_B_V : PySem.W.kitOne K (.ref C.B) (.type "ValueError") = some true
  k_N_B : PySem.W.kitOne K (.ref C.N) (.ref C.B) = some false
  k_N_N : PySem.W.kitOne K (.ref C.N) (.ref C.N) = some true
  k_N_R : PySem.W.kitOne K (.ref C.N) (.ref C.R) = some false
  k_N_V : PySem.W.kitOne K (.ref C.N) (.type "ValueError") = some true
  k_R_B : PySem.W.kitOne K (.ref C.R) (.ref C.B) = some false
  k_R_N : PySem.W.kitOne K (.ref C.R) (.ref C.N) = some false
  k_R_R : PySem.W.kitOne K (.ref C.R) (.ref C.R) = some true
  k_R_V : PySem.W.kitOne K (.ref C.R) (.type "ValueError") = some true
end Pw

namespace Pw
open PySem PySem.Spec PyProof.Rows L2
def t_l_of (K : PySem.W.Frag) (C : Ad) (E : XK) : TS :=
  tRet (tOp (qIxL K) (tOp rCat (tSl (qSlL K) (tVar 0) (tPart (tVar 1)) (tPart (tOp qAdd (tVar 1) (tC (.int 1))))) (tLst (tCons (tC (.int 0)) (tNil)))) (tC (.int 0)))
def t_l_signs (K : PySem.W.Frag) (C : Ad) (E : XK) : TS :=
  tSeq (tAsg (tOp qAddS (tOp qAddS (tC (vS [32, 33, 34, 35, 36, 38, 39, 40, 41, 42, 43, 44, 45, 46, 47])) (tC (vS [48, 49, 50, 51, 52, 53, 54, 55, 56, 57]))) (tC (vS [58, 59, 60, 61, 62, 63, 64]))) (gName 0))
  (tSeq (tAsg (tOp qAddS (tOp qAddS (tVar 0) (tC (vS [65, 66, 67, 68, 69, 70, 71, 72, 73, 74, 75, 76, 77, 78, 79, 80, 81, 82, 83, 84, 85, 86, 87, 88, 89, 90]))) (tC (vS [91, 92, 93, 94, 95, 96]))) (gName 0))
  (tRet (tOp qAddS (tOp qAddS (tVar 0) (tC (vS [97, 98, 99, 100, 101, 102, 103, 104, 105, 106, 107, 108, 109, 110, 111, 112, 113, 114, 115, 116, 117, 118, 119, 120, 121, 122]))) (tC (vS [123, 124, 125, 126])))))
def t_l_name_by (K : PySem.W.Frag) (C : Ad) (E : XK) : TS :=
  tSeq (tAsg (tLst (tCons (tC (vS [46])) (tCons (tC (vS [46, 46])) (tCons (tC (vS [126])) (tCons (tC (vS [47])) (tCons (tC (vS [64])) (tCons (tC (vS [64, 97])) (tCons (tC (vS [97])) (tCons (tC (vS [98])) (tCons (tC (vS [46, 46, 46])) (tCons (tC (vS [46, 97])) (tCons (tC (vS [126, 49, 51])) (tCons (tC (vS [97, 47, 98])) (tCons (tC (vS [32])) (tCons (tC (vS [46, 46, 97])) (tNil)))))))))))))))) (gName 1))
  (tSeq (tIfS (tTest (tOp qEqI (tOp qMod (tVar 0) (tC (.int 3))) (tC (.int 0)))) (tRet (tOp (qIxL K) (tVar 1) (tOp qMod (tOp qDiv (tVar 0) (tC (.int 3))) (tC (.int 14))))) (tNext))
  (tSeq (tAsg (tOp qAdd (tC (.int 1)) (tOp qMod (tOp qDiv (tVar 0) (tC (.int 3))) (tC (.int 4)))) (gName 2))
  (C8.tCut (tIfS (tTest (tOp qEqI (tOp qMod (tOp qDiv (tVar 0) (tC (.int 12))) (tC (.int 9))) (tC (.int 4)))) (tAsg (tOp qAdd (tVar 2) (tOp qMod (tOp qDiv (tVar 0) (tC (.int 108))) (tC (.int 40)))) (gName 2)) (tNext))
  (tSeq (tAsg (tC (vS [])) (gName 3))
  (tSeq (tFor (iRng1 (tCons (tVar 2) (tNil))) (gName 4) (tAsg (tOp qAddS (tVar 3) (tOp qIxS (tCallS (sp_l_signs K C) (fun _ => E0) tNil) (tOp qMod (tOp qDiv (tOp qMod (tOp qMulR (tOp qAdd (tOp qDiv (tVar 0) (tC (.int 12))) (tOp qMulL (tC (.int 7)) (tVar 4))) (tC (.int 48271))) (tC (.int 65537))) (tC (.int 5))) (tC (.int 94))))) (gName 3)))
  (tRet (tVar 3)))))))
def t_l_escape (K : PySem.W.Frag) (C : Ad) (E : XK) : TS :=
  tSeq (tAsg (tBM K "str" qIxSigns (tCallS (sp_l_signs K C) (fun _ => E0) tNil) (tCons (tVar 0) (tNil))) (gName 1))
  (tRet (tOp qAddS (tOp qAddS (tC (vS [126])) (tCB qStrD (tCons (tOp qDiv (tVar 1) (tC (.int 10))) (tNil)))) (tCB qStrD (tCons (tOp qMod (tVar 1) (tC (.int 10))) (tNil)))))
def t_l_part_by (K : PySem.W.Frag) (C : Ad) (E : XK) : TS :=
  tSeq (tAsg (tC (vS [])) (gName 2))
  (tSeq (tFor (iRng1 (tCons (tCB qLenS (tCons (tVar 0) (tNil))) (tNil))) (gName 3) (C8.tCut (tIfS (tOr (tTest (tOp qInS (tOp qIxS (tVar 0) (tVar 3)) (tC (vS [47, 126])))) (tOr (tAnd (tTest (tOp qEqI (tVar 3) (tC (.int 0)))) (tTest (tOp qEqS (tOp qIxS (tVar 0) (tC (.int 0))) (tC (vS [64]))))) (tTest (tOp qEqI (tOp qMod (tVar 1) (tC (.int 2))) (tC (.int 1)))))) (tAsg (tOp qAddS (tVar 2) (tCallS (sp_l_escape K C) (fun _ => E0) (tCons (tOp qIxS (tVar 0) (tVar 3)) (tNil)))) (gName 2)) (tAsg (tOp qAddS (tVar 2) (tOp qIxS (tVar 0) (tVar 3))) (gName 2)))
  (tAsg (tOp qDiv (tVar 1) (tC (.int 2))) (gName 1))))
  (C8.tCut (tIfS (tOr (tTest (tOp qEqS (tVar 2) (tC (vS [46])))) (tTest (tOp qEqS (tVar 2) (tC (vS [46, 46]))))) (tAsg (tOp qAddS (tCallS (sp_l_escape K C) (fun _ => E0) (tCons (tC (vS [46])) (tNil))) (tSl qSlS (tVar 2) (tPart (tC (.int 1))) tNoPart)) (gName 2)) (tNext))
  (tRet (tVar 2))))
def t_l_share_by (K : PySem.W.Frag) (C : Ad) (E : XK) : TS :=
  tSeq (tIfS (tAnd (tTest (tOp qEqI (tOp qMod (tVar 1) (tC (.int 2))) (tC (.int 1)))) (tAnd (tTest (tOp qNiS (tC (vS [47])) (tVar 0))) (tTest (tOp qNiS (tC (vS [126])) (tVar 0))))) (tRet (tOp qAddS (tC (vS [64])) (tVar 0))) (tNext))
  (tRet (tOp qAddS (tC (vS [64])) (tCallS (sp_l_part_by K C) (fun _ => E0) (tCons (tVar 0) (tCons (tOp qDiv (tVar 1) (tC (.int 2))) (tNil))))))
def t_l_path_of (K : PySem.W.Frag) (C : Ad) (E : XK) : TS :=
  tSeq (tAsg (tLst (tNil)) (gName 2))
  (tSeq (tAsg (tLst (tNil)) (gName 3))
  (tSeq (tAsg (tC (vS [109, 97, 100, 101])) (gName 4))
  (tSeq (tFor (iRng1 (tCons (tOp qMod (tVar 0) (tC (.int 6))) (tNil))) (gName 5) (tSeq (tAsg (tOp qMod (tOp qAdd (tOp qDiv (tVar 0) (tC (.int 6))) (tOp qMulL (tOp qMulL (tC (.int 5)) (tVar 5)) (tOp qAdd (tC (.int 1)) (tOp qMod (tVar 0) (tC (.int 11)))))) (tC (.int 23))) (gName 6))
  (tIfS (tTest (tOp qLt (tVar 6) (tC (.int 8)))) (tSeq (tAsg (tOp (qIxL K) (tVar 1) (tOp qMod (tOp qAdd (tOp qDiv (tVar 0) (tC (.int 138))) (tVar 5)) (tCB (qLenL K) (tCons (tVar 1) (tNil))))) (gName 7))
  (tSeq (tDrop (tBM K "list" rAppend (tVar 3) (tCons (tTup (tCons (tC (vS [115, 104, 97, 114, 101])) (tCons (tVar 7) (tNil)))) (tNil))))
  (tDrop (tBM K "list" rAppend (tVar 2) (tCons (tCallS (sp_l_share_by K C) (fun _ => E0) (tCons (tVar 7) (tCons (tOp qMod (tOp qDiv (tVar 0) (tC (.int 7))) (tC (.int 128))) (tNil)))) (tNil)))))) (tIfS (tAnd (tTest (tOp qEqI (tVar 6) (tC (.int 8)))) (tTest (tOp qEqI (tOp qMod (tVar 0) (tC (.int 4))) (tC (.int 1))))) (tSeq (tDrop (tBM K "list" rAppend (tVar 2) (tCons (tOp qAddS (tC (vS [64])) (tOp qMulS (tOp qMulS (tC (vS [115])) (tC (.int 60))) (tOp qMod (tOp qDiv (tVar 0) (tC (.int 138))) (tC (.int 2))))) (tNil))))
  (tAsg (tIf (tTest (tOp qEqS (tVar 4) (tC (vS [109, 97, 100, 101])))) (tC (vS [115, 104, 97, 114, 101])) (tVar 4)) (gName 4))) (tIfS (tAnd (tTest (tOp qEqI (tVar 6) (tC (.int 9)))) (tTest (tOp qEqI (tOp qMod (tVar 0) (tC (.int 4))) (tC (.int 2))))) (tSeq (tDrop (tBM K "list" rAppend (tVar 2) (tCons (tOp (qIxL K) (tLst (tCons (tC (vS [126])) (tCons (tC (vS [97, 126, 57, 52])) (tCons (tC (vS [64, 126, 49])) (tNil))))) (tOp qMod (tOp qDiv (tVar 0) (tC (.int 138))) (tC (.int 3)))) (tNil))))
  (tAsg (tC (vS [101, 115, 99, 97, 112, 101])) (gName 4))) (tSeq (tDrop (tBM K "list" rAppend (tVar 2) (tCons (tOp (qIxL K) (tLst (tCons (tC (vS [])) (tCons (tC (vS [46, 46])) (tCons (tC (vS [97])) (tCons (tC (vS [46, 46, 46])) (tNil)))))) (tOp qMod (tVar 6) (tC (.int 4)))) (tNil))))
  (tDrop (tBM K "list" rExtend (tVar 3) (tCons (tOp (qIxL K) (tLst (tCons (tLst (tNil)) (tCons (tLst (tCons (tTup (tCons (tC (vS [117, 112])) (tNil))) (tNil))) (tCons (tLst (tCons (tTup (tCons (tC (vS [110, 97, 109, 101])) (tCons (tC (vS [97])) (tNil)))) (tNil))) (tCons (tLst (tCons (tTup (tCons (tC (vS [110, 97, 109, 101])) (tCons (tC (vS [46, 46, 46])) (tNil)))) (tNil))) (tNil)))))) (tOp qMod (tVar 6) (tC (.int 4)))) (tNil))))))))))
  (tSeq (tAsg (tBM K "str" (qJoin K) (tC (vS [47])) (tCons (tVar 2) (tNil))) (gName 8))
  (C8.tCut (tIfS (tTest (tOp qEqS (tSl qSlS (tVar 8) tNoPart (tPart (tC (.int 1)))) (tC (vS [47])))) (tAsg (tOp rCat (tLst (tCons (tTup (tCons (tC (vS [114, 111, 111, 116])) (tNil))) (tNil))) (tVar 3)) (gName 3)) (tNext))
  (tRet (tTup (tCons (tVar 8) (tCons (tVar 3) (tCons (tVar 4) (tNil)))))))))))
def t_p_gone (K : PySem.W.Frag) (C : Ad) (E : XK) : TS :=
  tSeq (tIfS (tTest (tOp qEqS (tOp (qIxT K) (tVar 1) (tC (.int 0))) (tC (vS [114, 111, 111, 116])))) (tRet (tLst (tNil))) (tNext))
  (tSeq (tIfS (tTest (tOp qEqS (tOp (qIxT K) (tVar 1) (tC (.int 0))) (tC (vS [117, 112])))) (tRet (tSl (qSlL K) (tVar 0) tNoPart (tPart (tUn qNeg (tC (.int 1)))))) (tNext))
  (tSeq (tIfS (tTest (tOp qEqS (tOp (qIxT K) (tVar 1) (tC (.int 0))) (tC (vS [115, 104, 97, 114, 101])))) (tRet (tCB (qListL K) (tCons (tDGet (tVar 2) (tOp (qIxT K) (tVar 1) (tC (.int 1)))) (tNil)))) (tNext))
  (tRet (tOp rCat (tVar 0) (tLst (tCons (tOp (qIxT K) (tVar 1) (tC (.int 1))) (tNil)))))))
def t_p_wanted (K : PySem.W.Frag) (C : Ad) (E : XK) : TS :=
  tRet (tLc (iList K (tVar 0)) (gName 1) (tTest (tOp qEqS (tOp (qIxT K) (tVar 1) (tC (.int 0))) (tC (vS [115, 104, 97, 114, 101])))) (tOp (qIxT K) (tVar 1) (tC (.int 1))) [1])
def t_p_settled (K : PySem.W.Frag) (C : Ad) (E : XK) : TS :=
  tSeq (tAsg (tDNewK) (gName 1))
  (tSeq (tAsg (tCB qListD (tCons (tVar 0) (tNil))) (gName 2))
  (tSeq (tWhile (tTest (tOp qGt (tCB (qLenL K) (tCons (tVar 2) (tNil))) (tC (.int 0)))) (tSeq (tAsg (tLst (tNil)) (gName 3))
  (tSeq (tFor (iList K (tVar 2)) (gName 4) (tIfS (tB (tCB (rAll K) (tCons (tLc (iList K (tCallS (sp_p_wanted K C) (fun _ => E0) (tCons (tDGet (tVar 0) (tVar 4)) (tNil)))) (gName 7) (tYes) (tDIn (tVar 7) (tVar 1)) [7]) (tNil)))) (tSeq (tAsg (tLst (tNil)) (gName 5))
  (tSeq (tFor (iList K (tDGet (tVar 0) (tVar 4))) (gName 6) (tAsg (tCallS (sp_p_gone K C) (fun _ => E0) (tCons (tVar 5) (tCons (tVar 6) (tCons (tVar 1) (tNil))))) (gName 5)))
  (sDPut (tVar 1) (tVar 4) (tVar 5)))) (tDrop (tBM K "list" rAppend (tVar 3) (tCons (tVar 4) (tNil))))))
  (tSeq (tIfS (tTest (tOp qEqI (tCB (qLenL K) (tCons (tVar 3) (tNil))) (tCB (qLenL K) (tCons (tVar 2) (tNil))))) (tRaise (fun cls d _ H => E cls d H) (.ref C.R)) (tNext))
  (tAsg (tVar 3) (gName 2))))))
  (tRet (tVar 1))))
def t_p_sign_of (K : PySem.W.Frag) (C : Ad) (E : XK) : TS :=
  tSeq (tIfS (tOr (tTest (tOp qLt (tCB qLenS (tCons (tVar 0) (tNil))) (tC (.int 2)))) (tOr (tTest (tOp qNiS (tOp qIxS (tVar 0) (tC (.int 0))) (tC (vS figs)))) (tTest (tOp qNiS (tOp qIxS (tVar 0) (tC (.int 1))) (tC (vS figs)))))) (tRaise (fun cls d _ H => E cls d H) (.ref C.B)) (tNext))
  (tSeq (tAsg (tOp qAdd (tOp qMulL (tC (.int 10)) (tBM K "str" qIxFigs (tC (vS figs)) (tCons (tOp qIxS (tVar 0) (tC (.int 0))) (tNil)))) (tBM K "str" qIxFigs (tC (vS figs)) (tCons (tOp qIxS (tVar 0) (tC (.int 1))) (tNil)))) (gName 1))
  (tSeq (tIfS (tTest (tOp qGe (tVar 1) (tCB qLenS (tCons (tC (vS signs)) (tNil))))) (tRaise (fun cls d _ H => E cls d H) (.ref C.B)) (tNext))
  (tRet (tOp qIxS (tC (vS signs)) (tVar 1)))))
def t_p_name_of (K : PySem.W.Frag) (C : Ad) (E : XK) : TS :=
  tSeq (tAsg (tC (vS [])) (gName 1))
  (tSeq (tAsg (tC (.int 0)) (gName 2))
  (tSeq (tWhile (tTest (tOp qLt (tVar 2) (tCB qLenS (tCons (tVar 0) (tNil))))) (tIfS (tTest (tOp qEqS (tOp qIxS (tVar 0) (tVar 2)) (tC (vS [126])))) (tSeq (tAsg (tOp qAddS (tVar 1) (tCallS (sp_p_sign_of K C) (WE (fun cls d _ H => E cls d H)) (tCons (tSl qSlS (tVar 0) (tPart (tOp qAdd (tVar 2) (tC (.int 1)))) (tPart (tOp qAdd (tVar 2) (tC (.int 3))))) (tNil)))) (gName 1))
  (tAsg (tOp qAdd (tVar 2) (tC (.int 3))) (gName 2))) (tSeq (tAsg (tOp qAddS (tVar 1) (tOp qIxS (tVar 0) (tVar 2))) (gName 1))
  (tAsg (tOp qAdd (tVar 2) (tC (.int 1))) (gName 2)))))
  (tRet (tVar 1))))
def t_p_step_of (K : PySem.W.Frag) (C : Ad) (E : XK) : TS :=
  tSeq (tIfS (tOr (tTest (tOp qEqS (tVar 0) (tC (vS [])))) (tTest (tOp qEqS (tVar 0) (tC (vS [46]))))) (tRet (tLst (tNil))) (tNext))
  (tSeq (tIfS (tTest (tOp qEqS (tVar 0) (tC (vS [46, 46])))) (tRet (tLst (tCons (tTup (tCons (tC (vS [117, 112])) (tNil))) (tNil)))) (tNext))
  (tSeq (tIfS (tTest (tOp qEqS (tOp qIxS (tVar 0) (tC (.int 0))) (tC (vS [64])))) (tRet (tLst (tCons (tTup (tCons (tC (vS [115, 104, 97, 114, 101])) (tCons (tCallS (sp_p_name_of K C) (WE (fun cls d _ H => E cls d H)) (tCons (tSl qSlS (tVar 0) (tPart (tC (.int 1))) tNoPart) (tNil))) (tNil)))) (tNil)))) (tNext))
  (tRet (tLst (tCons (tTup (tCons (tC (vS [110, 97, 109, 101])) (tCons (tCallS (sp_p_name_of K C) (WE (fun cls d _ H => E cls d H)) (tCons (tVar 0) (tNil))) (tNil)))) (tNil))))))
def t_p_steps_of (K : PySem.W.Frag) (C : Ad) (E : XK) : TS :=
  tSeq (tAsg (tLst (tNil)) (gName 1))
  (C8.tCut (tIfS (tTest (tOp qEqS (tSl qSlS (tVar 0) tNoPart (tPart (tC (.int 1)))) (tC (vS [47])))) (tDrop (tBM K "list" rAppend (tVar 1) (tCons (tTup (tCons (tC (vS [114, 111, 111, 116])) (tNil))) (tNil)))) (tNext))
  (tSeq (tFor (iList K (tBM K "str" qSplit (tVar 0) (tCons (tC (vS [47])) (tNil)))) (gName 2) (tDrop (tBM K "list" rExtend (tVar 1) (tCons (tCallS (sp_p_step_of K C) (WE (fun cls d _ H => E cls d H)) (tCons (tVar 2) (tNil))) (tNil)))))
  (tRet (tVar 1))))
def t_p_Shares_init (K : PySem.W.Frag) (C : Ad) (E : XK) : TS :=
  tSeq (tAsg (tDNewK) (gName 2))
  (tSeq (tLock (tFor (iItems (tVar 1)) (gTup K 2 (gCons (gName 3) (gCons (gName 4) (gNil)))) (sDPut (tVar 2) (tVar 3) (tCallS (sp_p_steps_of K C) (WE (fun cls d _ H => E cls d H)) (tCons (tVar 4) (tNil))))))
  (tSeq (tLock (tFor (iKeys (tVar 2)) (gName 3) (tFor (iList K (tCallS (sp_p_wanted K C) (fun _ => E0) (tCons (tDGet (tVar 2) (tVar 3)) (tNil)))) (gName 5) (tIfS (tB (tDNotIn (tVar 5) (tVar 2))) (tRaise (fun cls d _ H => E cls d H) (.ref C.N)) (tNext)))))
  (tSeq (sFld K (tVar 0) (tCB qListD (tCons (tVar 2) (tNil))) "order")
  (sFld K (tVar 0) (tCallS (sp_p_settled K C) (WE (fun cls d _ H => E cls d H)) (tCons (tVar 2) (tNil))) "spots"))))
def t_l_said (K : PySem.W.Frag) (C : Ad) (E : XK) : TS :=
  tSeq (tTry (fun W => tDrop (tMkS C.Sh (sp_p_Shares_init K C) (WE (W)) (tCons (tVar 0) (tNil)))) (fun D => wAs K (.ref C.P) 1 (fun a cls d => tSeq (tAsg (tOp qAddS (tOp qMulS (tC (vS [101, 115, 99, 97, 112, 101, 32])) (tCB qIntB (tCons (tCB (qIsE K a cls d) (tCons (tVar 1) (tCons (tC (.ref C.B)) (tNil)))) (tNil)))) (tOp qMulS (tC (vS [115, 104, 97, 114, 101, 32])) (tCB qIntB (tCons (tCB (qIsE K a cls d) (tCons (tVar 1) (tCons (tC (.ref C.N)) (tNil)))) (tNil))))) (gName 2))
  (tSeq (tAsg (tOp qAddS (tOp qAddS (tVar 2) (tOp qMulS (tC (vS [114, 105, 110, 103, 32])) (tCB qIntB (tCons (tCB (qIsE K a cls d) (tCons (tVar 1) (tCons (tC (.ref C.R)) (tNil)))) (tNil))))) (tOp qMulS (tC (vS [118, 97, 108, 117, 101])) (tCB qIntB (tCons (tCB (qIsE K a cls d) (tCons (tVar 1) (tCons (tC (.ty "ValueError")) (tNil)))) (tNil))))) (gName 2))
  (tRet (tVar 2)))) (fun _ _ _ _ => False) D))
  (tRet (tC (vS [109, 97, 100, 101])))
def t_l_walk (K : PySem.W.Frag) (C : Ad) (E : XK) : TS :=
  tSeq (tAsg (tCB (qListL K) (tCons (tVar 0) (tNil))) (gName 0))
  (tSeq (tFor (iList K (tVar 1)) (gName 3) (tIfS (tTest (tOp qEqS (tOp (qIxT K) (tVar 3) (tC (.int 0))) (tC (vS [114, 111, 111, 116])))) (tAsg (tLst (tNil)) (gName 0)) (tIfS (tTest (tOp qEqS (tOp (qIxT K) (tVar 3) (tC (.int 0))) (tC (vS [117, 112])))) (tAsg (tSl (qSlL K) (tVar 0) tNoPart (tPart (tUn qNeg (tC (.int 1))))) (gName 0)) (tIfS (tTest (tOp qEqS (tOp (qIxT K) (tVar 3) (tC (.int 0))) (tC (vS [115, 104, 97, 114, 101])))) (tAsg (tCB (qListL K) (tCons (tDGet (tVar 2) (tOp (qIxT K) (tVar 3) (tC (.int 1)))) (tNil))) (gName 0)) (tAsg (tOp rCat (tVar 0) (tLst (tCons (tOp (qIxT K) (tVar 3) (tC (.int 1))) (tNil)))) (gName 0))))))
  (tRet (tVar 0)))
def t_l_walk_k06 (K : PySem.W.Frag) (C : Ad) (E : XK) : TS :=
  tSeq (tAsg (tCB (qListL K) (tCons (tVar 0) (tNil))) (gName 0))
  (tSeq (tFor (iList K (tVar 1)) (gName 3) (tIfS (tTest (tOp qEqS (tOp (qIxT K) (tVar 3) (tC (.int 0))) (tC (vS [114, 111, 111, 116])))) (tAsg (tLst (tNil)) (gName 0)) (tIfS (tTest (tOp qEqS (tOp (qIxT K) (tVar 3) (tC (.int 0))) (tC (vS [117, 112])))) (tAsg (tSl (qSlL K) (tVar 0) tNoPart (tPart (tUn qNeg (tC (.int 1))))) (gName 0)) (tIfS (tTest (tOp qEqS (tOp (qIxT K) (tVar 3) (tC (.int 0))) (tC (vS [115, 104, 97, 114, 101])))) (tAsg (tCB (qListL K) (tCons (tDGet (tVar 2) (tOp (qIxT K) (tVar 3) (tC (.int 1)))) (tNil))) (gName 0)) (tAsg (tOp rCat (tVar 0) (tLst (tCons (tOp (qIxT K) (tVar 3) (tC (.int 1))) (tNil)))) (gName 0))))))
  (tRet (tVar 0)))
def t_l_places (K : PySem.W.Frag) (C : Ad) (E : XK) : TS :=
  tSeq (tAsg (tDNewK) (gName 1))
  (tSeq (tFor (iRng1 (tCons (tCB qLenD (tCons (tVar 0) (tNil))) (tNil))) (gName 2) (tLock (tFor (iKeys (tVar 0)) (gName 3) (tIfS (tB (tCB (rAll K) (tCons (tLc (iList K (tDGet (tVar 0) (tVar 3))) (gName 4) (tYes) (tOrV (tOp qNeS (tOp (qIxT K) (tVar 4) (tC (.int 0))) (tC (vS [115, 104, 97, 114, 101]))) (tDIn (tOp (qIxT K) (tVar 4) (tC (.int 1))) (tVar 1))) [4]) (tNil)))) (sDPut (tVar 1) (tVar 3) (tCallS (sp_l_walk_k06 K C) (fun _ => E0) (tCons (tLst (tNil)) (tCons (tDGet (tVar 0) (tVar 3)) (tCons (tVar 1) (tNil)))))) (tNext)))))
  (tRet (tVar 1)))
def t_p_Shares_place (K : PySem.W.Frag) (C : Ad) (E : XK) : TS :=
  tSeq (tIfS (tB (tDNotIn (tVar 1) (tFld K (tVar 0) "spots"))) (tRaise (fun cls d _ H => E cls d H) (.ref C.N)) (tNext))
  (tRet (tCB (qListL K) (tCons (tDGet (tFld K (tVar 0) "spots") (tVar 1)) (tNil))))
def t_l_stand (K : PySem.W.Frag) (C : Ad) (E : XK) : TS :=
  tSeq (tAsg (tMkS C.Sh (sp_p_Shares_init K C) (fun _ => E0) (tCons (tVar 0) (tNil))) (gName 2))
  (tSeq (tAsg (tCallS (sp_l_places K C) (fun _ => E0) (tCons (tVar 1) (tNil))) (gName 3))
  (tSeq (tLock (tFor (iKeys (tVar 1)) (gName 4) (tSeq (tAsg (tMetS C.Sh "place" (sp_p_Shares_place K C) (fun _ => E0) (tVar 2) (tCons (tVar 4) (tNil))) (gName 5))
  (tIfS (tOr (tNot (tB (tCB (rIsi K) (tCons (tVar 5) (tCons (tC (.ty "list")) (tNil)))))) (tTest (tOp (rNeD K) (tVar 5) (tDGet (tVar 3) (tVar 4))))) (tRet (tC (.bl false))) (tNext)))))
  (tRet (tC (.bl true)))))
def t_l_rings (K : PySem.W.Frag) (C : Ad) (E : XK) : TS :=
  tSeq (tAsg (tDNewK) (gName 1))
  (tSeq (tLock (tFor (iKeys (tVar 0)) (gName 2) (sDPut (tVar 1) (tVar 2) (tCB (qDictP K) (tCons (tLc (iList K (tDGet (tVar 0) (tVar 2))) (gName 3) (tYes) (tTup (tCons (tVar 3) (tCons (tC (.bl true)) (tNil)))) [3]) (tNil))))))
  (tSeq (tFor (iRng1 (tCons (tCB qLenD (tCons (tVar 0) (tNil))) (tNil))) (gName 4) (tLock (tFor (iKeys (tVar 0)) (gName 2) (tFor (iList K (tCB qListD (tCons (tDGet (tVar 1) (tVar 2)) (tNil)))) (gName 3) (tFor (iList K (tDGet (tVar 0) (tVar 3))) (gName 5) (sDPut (tDGet (tVar 1) (tVar 2)) (tVar 5) (tC (.bl true))))))))
  (tRet (tCB (rAny K) (tCons (tLockE (tLc (iKeys (tVar 0)) (gName 2) (tYes) (tDIn (tVar 2) (tDGet (tVar 1) (tVar 2))) [2])) (tNil))))))
def t_l_row_of_forty_k06 (K : PySem.W.Frag) (C : Ad) (E : XK) : TS :=
  tSeq (tAsg (tDNewK) (gName 1))
  (tSeq (tFor (iRng1 (tCons (tC (.int 40)) (tNil))) (gName 2) (sDPut (tVar 1) (tOp qAddS (tC (vS [115])) (tCB qStrZ (tCons (tVar 2) (tNil)))) (tOp qAddS (tC (vS [97, 47, 64, 115])) (tCB qStrZ (tCons (tOp qSub (tVar 2) (tC (.int 1))) (tNil))))))
  (tSeq (sDPut (tVar 1) (tC (vS [115, 48])) (tOp (qIxL K) (tLst (tCons (tC (vS [47, 98])) (tCons (tC (vS [64, 115, 51, 57])) (tNil)))) (tCB qIntB (tCons (tVar 0) (tNil)))))
  (tRet (tVar 1))))
def t_law_k06 (K : PySem.W.Frag) (C : Ad) (E : XK) : TS :=
  tSeq (tAsg (tCallS (sp_l_of K C) (fun _ => E0) (tCons (tVar 0) (tCons (tC (.int 0)) (tNil)))) (gName 1))
  (tSeq (tIfS (tTest (tOp qEqI (tOp qMod (tVar 1) (tC (.int 9))) (tC (.int 1)))) (tRet (tOp qEqS (tCallS (sp_l_said K C) (fun _ => E0) (tCons (tCallS (sp_l_row_of_forty_k06 K C) (fun _ => E0) (tCons (tOp qEqI (tOp qMod (tOp qDiv (tVar 1) (tC (.int 9))) (tC (.int 2))) (tC (.int 1))) (tNil))) (tNil))) (tOp (qIxL K) (tLst (tCons (tC (vS [109, 97, 100, 101])) (tCons (tC (vS [114, 105, 110, 103, 32, 118, 97, 108, 117, 101])) (tNil)))) (tOp qMod (tOp qDiv (tVar 1) (tC (.int 9))) (tC (.int 2)))))) (tNext))
  (tSeq (tAsg (tLst (tNil)) (gName 2))
  (tSeq (tFor (iRng1 (tCons (tOp qAdd (tC (.int 1)) (tOp qMod (tOp qDiv (tVar 1) (tC (.int 9))) (tC (.int 6)))) (tNil))) (gName 3) (tSeq (tAsg (tCallS (sp_l_name_by K C) (fun _ => E0) (tCons (tCallS (sp_l_of K C) (fun _ => E0) (tCons (tVar 0) (tCons (tOp qAdd (tC (.int 1)) (tVar 3)) (tNil)))) (tNil))) (gName 4))
  (tIfS (tTest (tOp (rIn K true) (tVar 4) (tVar 2))) (tDrop (tBM K "list" rAppend (tVar 2) (tCons (tVar 4) (tNil)))) (tNext))))
  (tSeq (tAsg (tDNewK) (gName 5))
  (tSeq (tAsg (tDNewK) (gName 6))
  (tSeq (tAsg (tDNewK) (gName 7))
  (tSeq (tAsg (tLst (tNil)) (gName 8))
  (tSeq (tFor (iRng1 (tCons (tCB (qLenL K) (tCons (tVar 2) (tNil))) (tNil))) (gName 3) (tSeq (tAsg (tCallS (sp_l_path_of K C) (fun _ => E0) (tCons (tCallS (sp_l_of K C) (fun _ => E0) (tCons (tVar 0) (tCons (tOp qAdd (tC (.int 7)) (tVar 3)) (tNil)))) (tCons (tVar 2) (tNil)))) (gName 9))
  (tSeq (sDPut (tVar 5) (tOp (qIxL K) (tVar 2) (tVar 3)) (tOp (qIxT K) (tVar 9) (tC (.int 0))))
  (tSeq (sDPut (tVar 7) (tOp (qIxL K) (tVar 2) (tVar 3)) (tOp (qIxT K) (tVar 9) (tC (.int 1))))
  (tSeq (sDPut (tVar 6) (tOp (qIxL K) (tVar 2) (tVar 3)) (tLc (iList K (tOp (qIxT K) (tVar 9) (tC (.int 1)))) (gName 11) (tTest (tOp qEqS (tOp (qIxT K) (tVar 11) (tC (.int 0))) (tC (vS [115, 104, 97, 114, 101])))) (tOp (qIxT K) (tVar 11) (tC (.int 1))) [11]))
  (tDrop (tBM K "list" rAppend (tVar 8) (tCons (tOp (qIxT K) (tVar 9) (tC (.int 2))) (tNil)))))))))
  (tSeq (tAsg (tC (vS [109, 97, 100, 101])) (gName 10))
  (C8.tCut (tIfS (tTest (tOp (rIn K false) (tC (vS [101, 115, 99, 97, 112, 101])) (tVar 8))) (tAsg (tC (vS [101, 115, 99, 97, 112, 101, 32, 118, 97, 108, 117, 101])) (gName 10)) (tIfS (tTest (tOp (rIn K false) (tC (vS [115, 104, 97, 114, 101])) (tVar 8))) (tAsg (tC (vS [115, 104, 97, 114, 101, 32, 118, 97, 108, 117, 101])) (gName 10)) (tIfS (tB (tCallS (sp_l_rings K C) (fun _ => E0) (tCons (tVar 6) (tNil)))) (tAsg (tC (vS [114, 105, 110, 103, 32, 118, 97, 108, 117, 101])) (gName 10)) (tNext))))
  (tSeq (tIfS (tTest (tOp qNeS (tCallS (sp_l_said K C) (fun _ => E0) (tCons (tVar 5) (tNil))) (tVar 10))) (tRet (tC (.bl false))) (tNext))
  (tRet (tOrV (tOp qNeS (tVar 10) (tC (vS [109, 97, 100, 101]))) (tCallS (sp_l_stand K C) (fun _ => E0) (tCons (tVar 5) (tCons (tVar 7) (tNil)))))))))))))))))
end Pw
namespace Pw
open PySem PySem.Spec PyProof.Rows L2
local macro_rules | `(tactic| walk_at "sz") => `(tactic| first | omega | (simp only [List.length_append, List.length_cons, List.length_nil, List.length_map, List.length_take, List.length_drop, List.length_replicate]; omega) | decide)
local macro_rules | `(tactic| walk_at "g1") => `(tactic| first
  | with_reducible refine' i_seq ?_
  | with_reducible refine' i_asg ?_
  | with_reducible refine' i_name ?_
  | with_reducible refine' i_c ?_
  | ((with_reducible refine' i_var ?vh ?_); (case vh => exact rfl))
  | with_reducible refine' i_op ?_
  | with_reducible refine' i_un ?_
  | with_reducible refine' i_call ?_
  | with_reducible refine' i_cons ?_
  | with_reducible refine' i_nil ?_
  | with_reducible refine' i_cb ?_
  | with_reducible refine' i_test ?_
  | with_reducible refine' i_tB ?_
  | with_reducible refine' i_bl ?_
  | with_reducible refine' i_int ?_
  | with_reducible refine' i_ret ?_
  | with_reducible refine' i_drop ?_
  | with_reducible refine' i_if ?_
  | with_reducible refine' i_next ?_
  | with_reducible refine' i_and ?_
  | with_reducible refine' i_or ?_
  | with_reducible refine' i_not ?_
  | with_reducible refine' i_andV ?_
  | with_reducible refine' i_orV ?_
  | with_reducible refine' i_notV ?_
  | with_reducible refine' i_ifE ?_
  | with_reducible refine' i_sl ?_
  | with_reducible refine' i_nopart ?_
  | with_reducible refine' i_part ?_
  | with_reducible refine' i_bm ?_
  | with_reducible refine' i_tyS ?_
  | with_reducible refine' i_tup ?_
  | with_reducible refine' i_lst ?_
  | with_reducible refine' i_for ?_
  | with_reducible refine' i_rng1 ?_
  | with_reducible refine' i_list ?_
  | with_reducible refine' i_enumS ?_
  | with_reducible refine' i_add ?_
  | with_reducible refine' i_sub ?_
  | with_reducible refine' i_lt ?_
  | with_reducible refine' i_le ?_
  | with_reducible refine' i_gt ?_
  | with_reducible refine' i_ge ?_
  | with_reducible refine' i_neg ?_
  | with_reducible refine' i_eqI ?_
  | with_reducible refine' i_neI ?_
  | with_reducible refine' i_eqS ?_
  | with_reducible refine' i_neS ?_
  | with_reducible refine' i_isN ?_
  | with_reducible refine' i_notN ?_
  | with_reducible refine' i_inS ?_
  | with_reducible refine' i_niS ?_
  | ((with_reducible refine' i_addS ?zz ?_); (case zz => walk_at "sz"))
  | ((with_reducible refine' i_div ?zz ?_); (case zz => walk_at "sz"))
  | ((with_reducible refine' i_mod ?zz ?_); (case zz => walk_at "sz"))
  | ((with_reducible refine' i_mulL ?zz ?_); (case zz => walk_at "sz"))
  | ((with_reducible refine' i_mulR ?zz ?_); (case zz => walk_at "sz"))
  | ((with_reducible refine' i_lenS ?zz ?_); (case zz => walk_at "sz"))
  | ((with_reducible refine' i_slS ?zz ?_); (case zz => walk_at "sz"))
  | ((with_reducible refine' i_slL ?zz ?_); (case zz => assumption))
  | ((with_reducible refine' i_lenL ?zz ?_); (case zz => assumption))
  | ((with_reducible refine' i_listL ?zz ?_); (case zz => assumption))
  | with_reducible refine' iteT ?_
  | with_reducible refine' iteF ?_
  | with_reducible refine' iteNT ?_
  | with_reducible refine' iteNF ?_
  | with_reducible refine' iteNR ?_
  | with_reducible refine' i_raise ?_
  | ((with_reducible refine' i_strD' ?zz ?_); (case zz => walk_at "sz"))
  | ((with_reducible refine' i_strN' ?zz ?_); (case zz => walk_at "sz"))
  | with_reducible refine' i_lc ?_
  | ((with_reducible refine' i_rng ?zz ?_); (case zz => walk_at "sz"))
  | with_reducible refine' i_intB ?_
  | with_reducible refine' i_isStr ?_
  | with_reducible refine' i_l_signs ?_
  | with_reducible refine' i_itup ?_
  | with_reducible refine' i_dget ?_
  | with_reducible refine' i_met ?_
  | with_reducible refine' i_mkS ?_
  | with_reducible refine' i_din ?_
  | with_reducible refine' i_dnin ?_
  | with_reducible refine' i_dput ?_
  | with_reducible refine' i_dnew ?_
  | with_reducible refine' i_fld ?_
  | with_reducible refine' i_sfld ?_
  | ((with_reducible refine' i_ixT (i := 0) ?ze ?zt ?zr ?_); (case ze => exact rfl); (case zt => assumption); (case zr => exact rfl))
  | ((with_reducible refine' i_ixT (i := 1) ?ze ?zt ?zr ?_); (case ze => exact rfl); (case zt => assumption); (case zr => exact rfl))
  | ((with_reducible refine' iteLF ?zz ?_); (case zz => decide))
  | ((with_reducible refine' iteLT ?zz ?_); (case zz => decide))
  | ((with_reducible refine' i_mk ?zz ?_); (case zz => first | decide | (simp; done) | (simp; omega)))
  | ((with_reducible refine' i_l_of' ?zz ?hs ?_); (case zz => omega); (case hs => assumption)))
local macro_rules | `(tactic| walk_at "go") => `(tactic| repeat walk_at "g1")
local macro_rules | `(tactic| walk_at "upto") => `(tactic| repeat ((fail_if_success (with_reducible refine' i_if ?_)); walk_at "g1"))



section
variable {K : PySem.W.Frag} {C : Ad} {vs : List V} {H : Hp} {Q : VK} {E : XK}
theorem rd_l_signs (h : sp_l_signs K C vs H Q E) : t_l_signs K C E (ends Q) (st 1 vs) H := by
  obtain ⟨rfl, q⟩ := h
  unfold t_l_signs
  walk_at "go"
  exact q
theorem rd_l_of (h : sp_l_of K C vs H Q E) : t_l_of K C E (ends (Fgt H Q)) (st 2 vs) (noDT H) := by
  obtain ⟨a, ns, k, rfl, hS, q⟩ := h
  unfold t_l_of
  have hS' := sql_noDT hS
  walk_at "go"
  rw [cutN_one]
  intro p hp
  walk_at "go"
  intro r hr
  walk_at "go"
  refine i_cat (lk upd_same hr) upd_same ?_ fun c hc => ?_
  · rw [List.length_take]
    show min 1 _ + 1 ≤ _
    omega
  · walk_at "go"
    refine i_ixL (i := 0) rfl (SqL.of upd_same) (cellAt_cut ns k) ?_
    exact fgt0 (((same_new hp).trans (same_new hr)).trans (same_new hc)) q
theorem rd_p_sign_of (h : sp_p_sign_of K C vs H Q E) : t_p_sign_of K C E (ends Q) (st 2 vs) H := by
  obtain ⟨l, rfl, hl, q, e⟩ := h
  unfold t_p_sign_of
  walk_at "go"
  refine i_ifD (fun h3 => ?_) (fun h3 => ?_)
  · walk_at "go"
    refine e ?_
    cases e2 : signOf l with
    | none => rfl
    | some s =>
      have := signOf_len e2
      omega
  · obtain ⟨a, b, rfl⟩ : ∃ a b, l = [a, b] := by
      match l, hl, h3 with
      | [a, b], _, _ => exact ⟨a, b, rfl⟩
      | [], _, h3 => exact absurd (by decide) h3
      | [a], _, h3 => exact absurd (show (([a].length : Nat) : Int) < 2 by simp) h3
      | _ :: _ :: _ :: _, hl, _ => exact absurd hl (by simp)
    walk_at "go"
    refine i_ixS (i := 0) (c := a) rfl (by simp) rfl ?_
    walk_at "go"
    refine i_ifN (fun h4 => ?_) (fun h4 => ?_)
    · walk_at "go"
      exact e (signOf_no1 fun z => h4 (mem_figs.mpr z))
    · walk_at "go"
      refine i_ixS (i := 1) (c := b) rfl (by simp) rfl ?_
      walk_at "go"
      refine i_ifN (fun h5 => ?_) (fun h5 => ?_)
      · walk_at "go"
        exact e (signOf_no2 fun z => h5 (mem_figs.mpr z))
      · walk_at "go"
        refine i_ixS (i := 0) (c := a) rfl (by simp) rfl ?_
        walk_at "go"
        refine i_ixFigs h4 ?_
        walk_at "go"
        refine i_ixS (i := 1) (c := b) rfl (by simp) rfl ?_
        walk_at "go"
        refine i_ixFigs h5 ?_
        walk_at "go"
        have hsl : (signs.length : Int) = 94 := rfl
        refine i_ifD (fun h6 => ?_) (fun h6 => ?_)
        · walk_at "go"
          exact e (signOf_no3 (by omega))
        · have h7 : 10 * (a - 48) + (b - 48) < 94 := by omega
          walk_at "go"
          refine i_ixS (i := 10 * (a - 48) + (b - 48)) (by omega) (by decide) (signs_get h7) ?_
          exact q _ (signOf_two (mem_figs.mp h4) (mem_figs.mp h5) h7)
theorem rd_p_name_of (h : sp_p_name_of K C vs H Q E) : t_p_name_of K C E (ends Q) (st 3 vs) H := by
  obtain ⟨l, rfl, hl, q, e⟩ := h
  unfold t_p_name_of
  walk_at "go"
  refine ⟨fun m σ H' => ∃ (i : Nat) (f : List Nat), σ = [some (vS l), some (vS f), some (.int (i : Int))] ∧ H' = H ∧ m = l.length - i ∧ i ≤ l.length ∧ f.length ≤ i ∧ nameOf l = (nameOf (l.drop i)).map (f ++ ·),
    ⟨l.length, 0, [], rfl, rfl, rfl, Nat.zero_le _, Nat.le_refl _, by simp⟩, ?_⟩
  rintro m σ H' ⟨i, f, rfl, rfl, rfl, hi, hf, inv⟩
  walk_at "go"
  refine i_ifD (fun h => ?_) (fun h => ?_)
  · refine ⟨_, fun _ _ h => h, ?_⟩
    have hlt : i < l.length := by omega
    have hc := get_lt hlt
    walk_at "go"
    refine i_ixS (i := i) rfl (by omega) hc ?_
    walk_at "go"
    refine i_ifD (fun h1 => ?_) (fun h1 => ?_)
    · have h2 : l[i] = 126 := by simpa using h1
      rw [h2] at hc
      walk_at "go"
      rw [cut_two]
      refine i_p_sign_of (by rw [List.length_take]; omega) (fun s hs => ?_) (fun hs => ?_)
      · have hlen : i + 3 ≤ l.length := by
          have := signOf_len hs
          rw [List.length_take, List.length_drop] at this
          omega
        walk_at "go"
        exact ⟨l.length - (i + 3), by omega, i + 3, _, rfl, rfl, rfl, by omega, by simp; omega, read_escS hc hs inv⟩
      · exact e (read_escN hc hs inv)
    · have h2 : l[i] ≠ 126 := fun e => h1 (by rw [e])
      walk_at "go"
      refine i_ixS (i := i) rfl (by omega) hc ?_
      walk_at "go"
      exact ⟨l.length - (i + 1), by omega, i + 1, _, rfl, rfl, rfl, by omega, by simp; omega, read_plain hc h2 inv⟩
  · walk_at "go"
    exact q _ (read_end (by omega) inv)
end




theorem nm_odd : ∀ k < 14, ∀ l, ([[46], [46, 46], [126], [47], [64], [64, 97], [97], [98], [46, 46, 46], [46, 97], [126, 49, 51], [97, 47, 98], [32], [46, 46, 97]] : List (List Nat))[k]? = some l → l.length ≤ 43 ∧ l ≠ [] ∧ ∀ c ∈ l, c ∈ signs := by decide
theorem odd_get {k : Nat} (h : k < 14) : ∃ l, Nm l ∧ [vS [46], vS [46, 46], vS [126], vS [47], vS [64], vS [64, 97], vS [97], vS [98], vS [46, 46, 46], vS [46, 97], vS [126, 49, 51], vS [97, 47, 98], vS [32], vS [46, 46, 97]][k]? = some (vS l) := by
  have hk : k < ([[46], [46, 46], [126], [47], [64], [64, 97], [97], [98], [46, 46, 46], [46, 97], [126, 49, 51], [97, 47, 98], [32], [46, 46, 97]] : List (List Nat)).length := h
  have e := get_lt hk
  obtain ⟨h1, h2, h3⟩ := nm_odd k h _ e
  refine ⟨_, ⟨h3, h2, h1⟩, ?_⟩
  have e2 : [vS [46], vS [46, 46], vS [126], vS [47], vS [64], vS [64, 97], vS [97], vS [98], vS [46, 46, 46], vS [46, 97], vS [126, 49, 51], vS [97, 47, 98], vS [32], vS [46, 46, 97]] = ([[46], [46, 46], [126], [47], [64], [64, 97], [97], [98], [46, 46, 46], [46, 97], [126, 49, 51], [97, 47, 98], [32], [46, 46, 97]] : List (List Nat)).map vS := rfl
  rw [e2, List.getElem?_map, e]
  rfl
theorem named_snoc {l : List Nat} {c : Nat} (h : Named l) (hc : Sign c) : Named (l ++ [c]) := fun x hx => by
  rcases List.mem_append.mp hx with q | q
  · exact h x q
  · rw [List.mem_singleton.mp q]
    exact hc
section
variable {K : PySem.W.Frag} {C : Ad} {vs : List V} {H : Hp} {Q : VK} {E : XK}
theorem rd_l_name_by (h : sp_l_name_by K C vs H Q E) : t_l_name_by K C E (ends (Fgt H Q)) (st 5 vs) (noDT H) := by
  obtain ⟨c, rfl, q⟩ := h
  unfold t_l_name_by
  walk_at "go"
  intro p hp
  walk_at "go"
  refine i_ifD (fun h => ?_) (fun h => ?_)
  · walk_at "go"
    obtain ⟨l, hl, e⟩ := odd_get (k := (c / 3 % 14).toNat) (by omega)
    refine i_ixL (i := (c / 3 % 14).toNat) (by omega) (SqL.of upd_same) e ?_
    exact fgt0 (same_new hp) (q l hl)
  · walk_at "go"
    refine i_cut (fun σ' H' => ∃ n : Nat, σ' = [some (.int c), some (.ref p), some (.int (n : Int)), none, none] ∧ H' = upd (noDT H) p (.lst [vS [46], vS [46, 46], vS [126], vS [47], vS [64], vS [64, 97], vS [97], vS [98], vS [46, 46, 46], vS [46, 97], vS [126, 49, 51], vS [97, 47, 98], vS [32], vS [46, 46, 97]]) ∧ 1 ≤ n ∧ n ≤ 43) ?_ ?_
    · walk_at "go"
      refine i_ifD (fun h1 => ?_) (fun h1 => ?_)
      · walk_at "go"
        refine ⟨(1 + c / 3 % 4 + c / 108 % 40).toNat, ?_, rfl, by omega, by omega⟩
        show [some (V.int c), some (V.ref p), some (V.int (1 + c / 3 % 4 + c / 108 % 40)), none, none] = _
        rw [Int.toNat_of_nonneg (by omega)]
      · walk_at "go"
        refine ⟨(1 + c / 3 % 4).toNat, ?_, rfl, by omega, by omega⟩
        show [some (V.int c), some (V.ref p), some (V.int (1 + c / 3 % 4)), none, none] = _
        rw [Int.toNat_of_nonneg (by omega)]
    · rintro σ' H' ⟨n, rfl, rfl, h1, h2⟩
      walk_at "go"
      rw [Int.toNat_natCast]
      refine for_range (fun i σ H' => ∃ (l : List Nat) (y : Option V), σ = [some (.int c), some (.ref p), some (.int (n : Int)), some (vS l), y] ∧ H' = upd (noDT H) p (.lst [vS [46], vS [46, 46], vS [126], vS [47], vS [64], vS [64, 97], vS [97], vS [98], vS [46, 46, 46], vS [46, 97], vS [126, 49, 51], vS [97, 47, 98], vS [32], vS [46, 46, 97]]) ∧ l.length = i ∧ Named l) ⟨[], none, rfl, rfl, rfl, fun x hx => nomatch hx⟩ ?_ ?_
      · rintro i σ H' hi ⟨l, y, rfl, rfl, hl, hn⟩
        walk_at "go"
        generalize hz : ((c / 12 + 7 * (0 + (i : Int))) * 48271 % 65537 / 5 % 94) = z
        have hz1 : 0 ≤ z ∧ z < 94 := by omega
        refine i_ixS (l := signs) (i := z.toNat) (by omega) (by decide) (signs_get (by omega)) ?_
        walk_at "go"
        exact ⟨_, _, rfl, rfl, by simp [hl], named_snoc hn (signAt_sign (by omega))⟩
      · rintro σ H' ⟨l, y, rfl, rfl, hl, hn⟩
        walk_at "go"
        refine fgt0 (same_new hp) (q l ⟨hn, fun e => ?_, by omega⟩)
        rw [e] at hl
        simp at hl
        omega
theorem rd_l_escape (h : sp_l_escape K C vs H Q E) : t_l_escape K C E (ends Q) (st 2 vs) H := by
  obtain ⟨c, rfl, hc, q⟩ := h
  unfold t_l_escape
  walk_at "go"
  have := numOf_lt hc
  refine i_ixSigns hc ?_
  walk_at "go"
  have e1 : ((numOf c : Int) / 10).toNat = numOf c / 10 := by omega
  have e2 : ((numOf c : Int) % 10).toNat = numOf c % 10 := by omega
  rw [e1, e2]
  exact q
end




section
variable {K : PySem.W.Frag} {C : Ad} {vs : List V} {H : Hp} {Q : VK} {E : XK}
theorem rd_l_part_by (h : sp_l_part_by K C vs H Q E) : t_l_part_by K C E (ends Q) (st 4 vs) H := by
  obtain ⟨n, c0, rfl, hn, hl, q⟩ := h
  unfold t_l_part_by
  walk_at "go"
  rw [Int.toNat_natCast]
  refine for_range (fun i σ H' => ∃ (c : Int) (f : List Nat) (y : Option V), σ = [some (vS n), some (.int c), some (vS f), y] ∧ H' = H ∧ PB n f i) ⟨c0, [], none, rfl, rfl, PB.zero n⟩ ?_ ?_
  · rintro i σ H' hi ⟨c, f, y, rfl, rfl, pb⟩
    have hc := get_lt hi
    have hsg := hn _ (List.getElem_mem hi)
    have hfl := pb.len
    rw [Int.zero_add]
    walk_at "go"
    refine i_cut (fun σ2 H2 => ∃ f : List Nat, σ2 = [some (vS n), some (.int c), some (vS f), some (.int (i : Int))] ∧ H2 = H' ∧ PB n f (i + 1)) ?_ ?_
    · walk_at "go"
      refine i_ixS (i := i) rfl (by omega) hc ?_
      walk_at "go"
      refine i_ifD (fun h1 => ?_) (fun h1 => ?_)
      · walk_at "go"
        refine i_ixS (i := i) rfl (by omega) hc ?_
        walk_at "go"
        refine i_l_escape hsg ?_
        refine i_addS (by simp [esc]; omega) ?_
        walk_at "go"
        exact ⟨_, rfl, rfl, pb.put3 hc hsg⟩
      · have h47 : n[i] ≠ 47 := fun e => h1 (by rw [e]; simp)
        have h126 : n[i] ≠ 126 := fun e => h1 (by rw [e]; simp)
        walk_at "go"
        have yes : sp_l_escape K C [vS [n[i]]] H' (fun x H3 => qAddS (vS f) x H3 fun x H4 => ∃ f : List Nat, [some (vS n), some (.int c), some x, some (.int (i : Int))] = [some (vS n), some (.int c), some (vS f), some (.int (i : Int))] ∧ H4 = H' ∧ PB n f (i + 1)) E0 := by
          refine i_l_escape hsg ?_
          refine i_addS (by simp [esc]; omega) ?_
          exact ⟨_, rfl, rfl, pb.put3 hc hsg⟩
        have rest : (i = 0 → n[i] ≠ 64) → (if decide (c % 2 = 1) = true then sp_l_escape K C [vS [n[i]]] H' (fun x H3 => qAddS (vS f) x H3 fun x H4 => ∃ f : List Nat, [some (vS n), some (.int c), some x, some (.int (i : Int))] = [some (vS n), some (.int c), some (vS f), some (.int (i : Int))] ∧ H4 = H' ∧ PB n f (i + 1)) E0
            else ∃ g : List Nat, [some (vS n), some (.int c), some (vS (f ++ [n[i]])), some (.int (i : Int))] = [some (vS n), some (.int c), some (vS g), some (.int (i : Int))] ∧ H' = H' ∧ PB n g (i + 1)) := by
          intro h64
          refine i_ifD (fun h2 => yes) (fun h2 => ?_)
          exact ⟨_, rfl, rfl, pb.put hc h47 h126 h64⟩
        refine i_ifD (fun h2 => ?_) (fun h2 => ?_)
        · have hi0 : i = 0 := by omega
          walk_at "go"
          refine i_ixS (i := 0) (c := n[i]) rfl (by omega) (by rw [← hi0]; exact hc) ?_
          walk_at "go"
          refine i_ifD (fun h3 => ?_) (fun h3 => ?_)
          · walk_at "go"
            refine i_ixS (i := i) rfl (by omega) hc ?_
            walk_at "go"
            exact yes
          · have h64 : n[i] ≠ 64 := fun e => h3 (by rw [e])
            walk_at "go"
            refine i_ifD (fun h2 => ?_) (fun h2 => ?_)
            · walk_at "go"
              refine i_ixS (i := i) rfl (by omega) hc ?_
              walk_at "go"
              exact yes
            · walk_at "go"
              refine i_ixS (i := i) rfl (by omega) hc ?_
              walk_at "go"
              exact ⟨_, rfl, rfl, pb.put hc h47 h126 fun _ => h64⟩
        · have hi0 : i ≠ 0 := by omega
          walk_at "go"
          refine i_ifD (fun h2 => ?_) (fun h2 => ?_)
          · walk_at "go"
            refine i_ixS (i := i) rfl (by omega) hc ?_
            walk_at "go"
            exact yes
          · walk_at "go"
            refine i_ixS (i := i) rfl (by omega) hc ?_
            walk_at "go"
            exact ⟨_, rfl, rfl, pb.put hc h47 h126 fun z => absurd z hi0⟩
    · rintro σ2 H2 ⟨f, rfl, rfl, pb⟩
      walk_at "go"
      exact ⟨_, _, _, rfl, rfl, pb⟩
  · rintro σ H' ⟨c, f, y, rfl, rfl, pb⟩
    have hfl := pb.len
    refine i_cut (fun σ2 H2 => ∃ p : List Nat, σ2 = [some (vS n), some (.int c), some (vS p), y] ∧ H2 = H' ∧ Part n p) ?_ ?_
    · have yes : f = [46] ∨ f = [46, 46] → sp_l_escape K C [vS [46]] H' (fun x H3 => qAddS x (vS (f.drop 1)) H3 fun x H4 => ∃ p : List Nat, [some (vS n), some (.int c), some x, y] = [some (vS n), some (.int c), some (vS p), y] ∧ H4 = H' ∧ Part n p) E0 := fun hd => by
        refine i_l_escape (by decide) ?_
        refine i_addS (by have := drop1_len f; simp [esc]; omega) ?_
        exact ⟨_, rfl, rfl, pb.dots hd⟩
      walk_at "go"
      refine i_ifD (fun h1 => ?_) (fun h1 => ?_)
      · walk_at "go"
        refine i_l_escape (by decide) ?_
        walk_at "go"
        rw [cutN_1]
        refine i_addS (by have := drop1_len f; simp [esc]; omega) ?_
        walk_at "go"
        exact ⟨_, rfl, rfl, pb.dots (.inl h1)⟩
      · walk_at "go"
        refine i_ifD (fun h2 => ?_) (fun h2 => ?_)
        · walk_at "go"
          refine i_l_escape (by decide) ?_
          walk_at "go"
          rw [cutN_1]
          refine i_addS (by have := drop1_len f; simp [esc]; omega) ?_
          walk_at "go"
          exact ⟨_, rfl, rfl, pb.dots (.inr h2)⟩
        · walk_at "go"
          exact ⟨_, rfl, rfl, pb.done h1 h2⟩
    · rintro σ2 H2 ⟨p, rfl, rfl, hp⟩
      walk_at "go"
      exact q p hp
theorem rd_l_share_by (h : sp_l_share_by K C vs H Q E) : t_l_share_by K C E (ends Q) (st 2 vs) H := by
  obtain ⟨n, c, rfl, hn, hl, q⟩ := h
  unfold t_l_share_by
  have tail : sp_l_part_by K C [vS n, .int (c / 2)] H (fun x H1 => qAddS (vS [64]) x H1 Q) E0 := by
    refine i_l_part_by hn hl fun p hp => ?_
    have := hp.len
    refine i_addS (by simp; omega) ?_
    exact q p hp.tells hp.free hp.len
  walk_at "go"
  refine i_ifD (fun h1 => ?_) (fun h1 => ?_)
  · walk_at "go"
    refine i_ifN (fun h2 => ?_) (fun h2 => ?_)
    · walk_at "go"
      refine i_ifN (fun h3 => ?_) (fun h3 => ?_)
      · walk_at "go"
        exact q n (nameOf_raw h3) h2 (by omega)
      · walk_at "go"
        exact tail
    · walk_at "go"
      exact tail
  · walk_at "go"
    exact tail
theorem rd_p_step_of (h : sp_p_step_of K C vs H Q E) : t_p_step_of K C E (ends Q) (st 1 vs) H := by
  obtain ⟨l, rfl, hl, q, e⟩ := h
  unfold t_p_step_of
  walk_at "go"
  refine i_ifD (fun h1 => ?_) (fun h1 => ?_)
  · walk_at "go"
    intro p hp
    exact q [] p _ (by rw [h1]; exact stepOf_none) (same_new hp) ⟨[], upd_same, .nil⟩ hp
  walk_at "go"
  refine i_ifD (fun h2 => ?_) (fun h2 => ?_)
  · walk_at "go"
    intro p hp
    exact q [] p _ (by rw [h2]; exact stepOf_dot) (same_new hp) ⟨[], upd_same, .nil⟩ hp
  walk_at "go"
  refine i_ifD (fun h3 => ?_) (fun h3 => ?_)
  · walk_at "go"
    intro t ht
    walk_at "go"
    intro p hp
    refine q [.up] p _ (by rw [h3]; exact stepOf_dots) ((same_new ht).trans (same_new hp)) ⟨_, upd_same, .cons ⟨t, rfl, Same.sqt (same_new hp) (SqT.of upd_same)⟩ .nil⟩ (new_ne hp).2
  obtain ⟨c, r, rfl⟩ : ∃ c r, l = c :: r := by
    cases l with
    | nil => exact absurd rfl h1
    | cons c r => exact ⟨c, r, rfl⟩
  walk_at "go"
  refine i_ixS (i := 0) (c := c) rfl (by omega) rfl ?_
  walk_at "go"
  refine i_ifD (fun h4 => ?_) (fun h4 => ?_)
  · have h4' : c = 64 := by simpa using h4
    subst h4'
    have hst : stepOf (64 :: r) = (nameOf r).map fun n => [.share n] := by
      rw [stepOf, if_neg (by simp), if_neg (by simp), if_pos (by rfl)]
      rfl
    walk_at "go"
    rw [cutN_1]
    show sp_p_name_of K C [vS r] H _ _
    refine i_p_name_of (by simp at hl; omega) (fun n hn => ?_) (fun hn => ?_)
    · rw [hn] at hst
      walk_at "go"
      intro t ht
      walk_at "go"
      intro p hp
      exact q [.share n] p _ hst ((same_new ht).trans (same_new hp)) ⟨_, upd_same, .cons ⟨t, rfl, Same.sqt (same_new hp) (SqT.of upd_same)⟩ .nil⟩ (new_ne hp).2
    · rw [hn] at hst
      exact e hst
  · have h4' : c ≠ 64 := fun z => h4 (by rw [z])
    have hst : stepOf (c :: r) = (nameOf (c :: r)).map fun n => [.name n] := by
      rw [stepOf, if_neg (fun z => z.elim h1 h2), if_neg h3, if_neg (by simpa using h4')]
    walk_at "go"
    refine i_p_name_of hl (fun n hn => ?_) (fun hn => ?_)
    · rw [hn] at hst
      walk_at "go"
      intro t ht
      walk_at "go"
      intro p hp
      exact q [.name n] p _ hst ((same_new ht).trans (same_new hp)) ⟨_, upd_same, .cons ⟨t, rfl, Same.sqt (same_new hp) (SqT.of upd_same)⟩ .nil⟩ (new_ne hp).2
    · rw [hn] at hst
      exact e hst
end




theorem stepsP_take {l : List (List Nat)} {i : Nat} {p : List Nat} {s t : List Step} (hp : l[i]? = some p) (h : stepsP (l.take i) = some s) (h2 : stepOf p = some t) : stepsP (l.take (i + 1)) = some (s ++ t) := by
  rw [take_snoc hp]
  exact stepsP_snoc h h2
theorem stepsP_bad : ∀ {l : List (List Nat)} {i : Nat} {p : List Nat}, l[i]? = some p → stepOf p = none → stepsP l = none
  | [], i, p, h, _ => by simp at h
  | a :: r, 0, p, h, e => by
    simp at h
    subst h
    rw [stepsP, e]
  | a :: r, i + 1, p, h, e => by
    rw [List.getElem?_cons_succ] at h
    rw [stepsP, stepsP_bad h e]
    cases stepOf a <;> rfl
theorem splitS_len : ∀ l : List Nat, (splitS l).length ≤ l.length + 1
  | [] => Nat.le_refl _
  | c :: r => by
    have ih := splitS_len r
    rw [splitS]
    split
    · simp
      omega
    · split
      · rename_i h t e
        rw [e] at ih
        simp at ih ⊢
        omega
      · simp
theorem splitS_part : ∀ {l : List Nat} {p : List Nat}, p ∈ splitS l → p.length ≤ l.length
  | [], p, h => by
    rw [splitS] at h
    rw [List.mem_singleton.mp h]
    exact Nat.le_refl _
  | c :: r, p, h => by
    rw [splitS] at h
    split at h
    · rcases List.mem_cons.mp h with rfl | h
      · exact Nat.zero_le _
      · have := splitS_part h
        simp
        omega
    · split at h
      · rename_i a t e
        rcases List.mem_cons.mp h with rfl | h
        · have := splitS_part (l := r) (p := a) (by rw [e]; exact List.mem_cons_self)
          simp
          exact this
        · have := splitS_part (l := r) (p := p) (by rw [e]; exact List.mem_cons_of_mem _ h)
          simp
          omega
      · rw [List.mem_singleton.mp h]
        simp
theorem stepOf_len {p : List Nat} {t : List Step} (h : stepOf p = some t) : t.length ≤ 1 := by
  unfold stepOf at h
  split at h
  · cases h
    exact Nat.zero_le _
  split at h
  · cases h
    exact Nat.le_refl _
  split at h
  · obtain ⟨n, _, rfl⟩ := Option.map_eq_some_iff.mp h
    exact Nat.le_refl _
  · obtain ⟨n, _, rfl⟩ := Option.map_eq_some_iff.mp h
    exact Nat.le_refl _
section
variable {K : PySem.W.Frag} {C : Ad} {vs : List V} {H : Hp} {Q : VK} {E : XK}
theorem rd_p_steps_of (h : sp_p_steps_of K C vs H Q E) : t_p_steps_of K C E (ends Q) (st 3 vs) H := by
  obtain ⟨l, rfl, hl, q, e⟩ := h
  unfold t_p_steps_of
  walk_at "go"
  intro P hP
  walk_at "go"
  refine i_cut (fun σ2 H2 => ∃ us, σ2 = [some (vS l), some (.ref P), none] ∧ Same H H2 ∧ H2 P = some (.lst us) ∧ Paired (StepAt K H2) us (rootOf l)) ?_ ?_
  · walk_at "go"
    rw [cutN_t1]
    refine i_ifD (fun h1 => ?_) (fun h1 => ?_)
    · walk_at "go"
      refine i_tyL upd_same ?_
      walk_at "go"
      intro t ht
      walk_at "go"
      refine i_append (lk upd_same ht) (by simp) ?_
      refine ⟨_, rfl, Same.mut ((same_new hP).trans (same_new ht)) hP, upd_same, ?_⟩
      rw [rootOf_yes h1]
      exact .cons ⟨t, rfl, sqt_upd (lk upd_same ht) (SqT.of upd_same)⟩ .nil
    · walk_at "go"
      refine ⟨[], rfl, same_new hP, upd_same, ?_⟩
      rw [rootOf_no h1]
      exact .nil
  · rintro σ2 H2 ⟨us0, rfl, s2, hP2, at2⟩
    walk_at "go"
    refine i_split (by omega) fun t ht => ?_
    have hsp := splitS_len l
    have hpt := fun p hp => splitS_part (l := l) (p := p) hp
    have hr1 : (rootOf l).length ≤ 1 := by
      unfold rootOf
      split <;> simp
    have s3 := Same.new (o := .lst ((splitS l).map vS)) s2 ht
    refine ⟨t, rfl, ⟨_, SqL.of upd_same⟩, ?_⟩
    refine for_list (xs := (splitS l).map vS) (fun i σ H' => ∃ us ss y, σ = [some (vS l), some (.ref P), y] ∧ Same H H' ∧ H' t = some (.lst ((splitS l).map vS)) ∧ H' P = some (.lst us) ∧ Paired (StepAt K H') us (rootOf l ++ ss) ∧ stepsP ((splitS l).take i) = some ss ∧ ss.length ≤ i)
      ⟨us0, [], none, rfl, s3, upd_same, lk hP2 ht, by rw [List.append_nil]; exact paired_mono (fun _ _ r => r.same (same_new ht)) at2, rfl, Nat.le_refl _⟩ ?_ ?_ ?_
    · rintro i σ H' _ ⟨us, ss, y, rfl, s4, ht4, hp4, at4, st4, ln4⟩
      exact SqL.of ht4
    · rintro i x σ H' hx ⟨us, ss, y, rfl, s4, ht4, hp4, at4, st4, ln4⟩
      obtain ⟨p, rfl, hp⟩ : ∃ p, x = vS p ∧ (splitS l)[i]? = some p := by
        rw [List.getElem?_map] at hx
        cases e : (splitS l)[i]? with
        | none =>
          rw [e] at hx
          cases hx
        | some p =>
          rw [e] at hx
          exact ⟨p, (Option.some.inj hx).symm, rfl⟩
      have hil : i < (splitS l).length := (List.getElem?_eq_some_iff.mp hp).1
      have hpl := hpt p (List.mem_of_getElem? hp)
      have hul := paired_len at4
      rw [List.length_append] at hul
      have hPt : P ≠ t := fun z => by
        rw [z, ht] at hP2
        cases hP2
      walk_at "go"
      refine i_tyL hp4 ?_
      walk_at "go"
      refine i_p_step_of (by omega) (fun tt w H5 e5 s5 h5 n5 => ?_) (fun e5 => ?_)
      · obtain ⟨vs5, hw5, at5⟩ := h5
        have hl5 := stepOf_len e5
        have hv5 := paired_len at5
        walk_at "go"
        refine i_extend (s5 _ _ hp4) hw5 (by omega) ?_
        refine ⟨_, ss ++ tt, _, rfl, Same.mut (s4.trans s5) hP, ?_, upd_same, ?_, stepsP_take hp st4 e5, by simp; omega⟩
        · rw [upd_ne (fun z => hPt z.symm)]
          exact s5 _ _ ht4
        · rw [← List.append_assoc]
          refine paired_app (paired_mono (fun _ _ r => (r.same s5).upd (s5 _ _ hp4)) at4) (paired_mono (fun _ _ r => r.upd (s5 _ _ hp4)) at5)
      · refine e ?_ _ s4
        rw [stepsOf, stepsP_bad hp e5]
        rfl
    · rintro σ H' ⟨us, ss, y, rfl, s4, ht4, hp4, at4, st4, ln4⟩
      rw [List.length_map, List.take_length] at st4
      walk_at "go"
      refine q (rootOf l ++ ss) P H' ?_ s4 ⟨us, hp4, at4⟩ hP
      rw [stepsOf, st4]
      rfl
theorem cps_step {s : Step} (h : StepNd s) : ∀ l ∈ stepT s, Cps l := by
  intro l hl
  have e0 : ∀ l, (∀ c ∈ l, c < 1114112) → Cps l := fun _ h => h
  cases s with
  | root =>
    rw [List.mem_singleton.mp hl]
    exact e0 _ (by decide)
  | up =>
    rw [List.mem_singleton.mp hl]
    exact e0 _ (by decide)
  | share n =>
    rcases List.mem_cons.mp hl with rfl | hl
    · exact e0 _ (by decide)
    · rw [List.mem_singleton.mp hl]
      exact cps_named h
  | name n =>
    rcases List.mem_cons.mp hl with rfl | hl
    · exact e0 _ (by decide)
    · rw [List.mem_singleton.mp hl]
      exact cps_named h
end




section
variable {K : PySem.W.Frag} {C : Ad} {vs : List V} {H : Hp} {Q : VK} {E : XK}
theorem nms_of {xs : List V} {ys : List V} (h : Paired (fun _ y => ∃ l, y = vS l ∧ Nm l) xs ys) : ∃ pl : Place, ys = pl.map vS ∧ pl.length = xs.length ∧ ∀ n ∈ pl, Nm n := paired_strs (fun _ _ h => h) h
theorem rd_p_Shares_place (X : FxSh K C) (h : sp_p_Shares_place K C vs H Q E) : t_p_Shares_place K C E (ends Q) (st 2 vs) H := by
  obtain ⟨x, n, names, spots, rfl, ⟨dx, o, s, h1, h2, h3⟩, q, e⟩ := h
  unfold t_p_Shares_place
  walk_at "go"
  refine ⟨x, _, dx, _, _, rfl, h1, X.cl, X.na_spots, rfl, ?_⟩
  refine i_has h3.at fun r hr => ?_
  rw [hr]
  walk_at "go"
  refine i_ifN (fun h4 => ?_) (fun h4 => ?_)
  · walk_at "go"
    exact e (look_none.mpr h4)
  · obtain ⟨pl, hpl⟩ := look_some_of_key h4
    walk_at "go"
    refine ⟨x, _, dx, _, _, rfl, h1, X.cl, X.na_spots, rfl, ?_⟩
    walk_at "go"
    refine i_get h3.at hpl fun v hv => ?_
    obtain ⟨p, rfl, hp⟩ := hv
    walk_at "go"
    refine i_listL (SqL.of hp) fun w hw => ?_
    exact q pl w _ hpl (same_new hw) hw upd_same
theorem rd_p_gone (h : sp_p_gone K C vs H Q E) : t_p_gone K C E (ends Q) (st 3 vs) H := by
  obtain ⟨p, s, v, pl, pl', step, spots, rfl, hp, hl, ⟨a, rfl, ha⟩, hd, e, q⟩ := h
  unfold t_p_gone
  have hpL := SqL.of (K := K) hp
  cases step with
  | root =>
    have ha : SqT K H a [vS [114, 111, 111, 116]] := ha
    cases e
    walk_at "go"
    intro w hw
    exact q w _ (same_new hw) hw upd_same
  | up =>
    have ha : SqT K H a [vS [117, 112]] := ha
    cases e
    walk_at "go"
    intro w hw
    rw [cutN_last]
    refine q w _ (same_new hw) hw ?_
    rw [upd_same, List.map_dropLast]
  | share n =>
    have ha : SqT K H a [vS [115, 104, 97, 114, 101], vS n] := ha
    walk_at "go"
    refine i_get hd e fun v hv => ?_
    obtain ⟨z, rfl, hz⟩ := hv
    walk_at "go"
    refine i_listL (SqL.of hz) fun w hw => ?_
    exact q w _ (same_new hw) hw upd_same
  | name n =>
    have ha : SqT K H a [vS [110, 97, 109, 101], vS n] := ha
    cases e
    walk_at "go"
    intro w hw
    walk_at "go"
    refine i_cat (lk hp hw) upd_same (by rw [List.length_map]; simp; omega) fun u hu => ?_
    refine q u _ ((same_new hw).trans (same_new hu)) (new_ne hu).2 ?_
    rw [upd_same]
    simp
theorem rd_p_wanted (h : sp_p_wanted K C vs H Q E) : t_p_wanted K C E (ends Q) (st 2 vs) H := by
  obtain ⟨p, ss, rfl, ⟨us, hp, hat⟩, hl, q⟩ := h
  have hlen := paired_len hat
  unfold t_p_wanted
  walk_at "go"
  refine ⟨p, rfl, ⟨us, SqL.of hp⟩, fun D hD => ?_⟩
  refine lc_list (K := K) (a := p) (xs := us) (fun k H' => H' = upd H D (.lst ((sharesOf (ss.take k)).map vS))) rfl (fun k H' _ e => ?_) ?_ ?_
  · rw [e]
    exact SqL.of (lk hp hD)
  · rintro k x H' hx rfl
    obtain ⟨s, hs, r⟩ := paired_get hat hx
    obtain ⟨a, rfl, ha⟩ := r.same (same_new (o := .lst ((sharesOf (ss.take k)).map vS)) hD)
    have hk : k < ss.length := (List.getElem?_eq_some_iff.mp hs).1
    have hsl : (sharesOf (ss.take k)).length ≤ k := by
      have : ∀ l : List Step, (sharesOf l).length ≤ l.length := fun l => by
        induction l with
        | nil => exact Nat.le_refl _
        | cons s r ih => cases s <;> simp [sharesOf] <;> omega
      have := this (ss.take k)
      rw [List.length_take] at this
      omega
    refine ⟨rfl, ?_⟩
    rw [take_snoc hs, sharesOf_app]
    cases s with
    | root =>
      have ha : SqT K (upd H D (.lst ((sharesOf (ss.take k)).map vS))) a [vS [114, 111, 111, 116]] := ha
      walk_at "go"
      simp [sharesOf]
    | up =>
      have ha : SqT K (upd H D (.lst ((sharesOf (ss.take k)).map vS))) a [vS [117, 112]] := ha
      walk_at "go"
      simp [sharesOf]
    | share n =>
      have ha : SqT K (upd H D (.lst ((sharesOf (ss.take k)).map vS))) a [vS [115, 104, 97, 114, 101], vS n] := ha
      walk_at "go"
      refine ⟨_, upd_same, to_lineL (by rw [List.length_map]; omega), ?_⟩
      rw [upd_upd]
      simp [sharesOf]
    | name n =>
      have ha : SqT K (upd H D (.lst ((sharesOf (ss.take k)).map vS))) a [vS [110, 97, 109, 101], vS n] := ha
      walk_at "go"
      simp [sharesOf]
  · rintro H' rfl
    rw [hlen, List.take_length]
    exact q D hD
/-- the heap of a walk: the place's list is new -/
structure WalkAt (H H' : Hp) (q : Addr) (pl : Place) : Prop where
  same : Same H H'
  new : H q = none
  at_ : H' q = some (.lst (pl.map vS))
theorem rd_l_walk (h : sp_l_walk K C vs H Q E) : t_l_walk K C E (ends Q) (st 4 vs) H := by
  obtain ⟨p, s, d, start, pl, ss, places, rfl, hp, hs, hd, hl, hsh, e, q⟩ := h
  unfold t_l_walk
  walk_at "go"
  intro w hw
  walk_at "go"
  refine for_steps hs (fun i σ H' => ∃ u z y, σ = [some (.ref u), some (.ref s), some (.ref d), z] ∧ WalkAt H H' u y ∧ walkP (look places) (ss.take i) start = some y) ⟨w, none, start, rfl, ⟨same_new hw, hw, upd_same⟩, rfl⟩ ?_ ?_ ?_
  · rintro i σ H' ⟨u, z, y, rfl, W, _⟩
    exact W.same
  · rintro i step a σ H' hi ⟨u, z, y, rfl, W, ey⟩ ha
    have hil : i < ss.length := (List.getElem?_eq_some_iff.mp hi).1
    have hyl := walkP_len (B := max start.length 400000) (k := 0) (fun n p h => Nat.le_trans (hsh n p h) (Nat.le_max_right _ _)) (by omega) ey
    have htl : (ss.take i).length ≤ ss.length := by
      rw [List.length_take]
      omega
    have hup := SqL.of (K := K) W.at_
    have est := walkP_take hi ey
    have fin : ∀ r H1, Same H' H1 → H' r = none → (∀ y', stepP (look places) step y = some y' → H1 r = some (.lst (y'.map vS))) → ∃ u z' y', [some (V.ref r), some (.ref s), some (.ref d), some (.ref a)] = [some (V.ref u), some (.ref s), some (.ref d), z'] ∧ WalkAt H H1 u y' ∧ walkP (look places) (ss.take (i + 1)) start = some y' := by
      intro r H1 h1 h2 h3
      cases e2 : stepP (look places) step y with
      | none =>
        have : walkP (look places) ss start = none := by
          have es : ss = ss.take (i + 1) ++ ss.drop (i + 1) := (List.take_append_drop _ _).symm
          rw [es, walkP_app, est, e2]
          rfl
        rw [this] at e
        cases e
      | some y' =>
        have hr : H r = none := by
          cases e5 : H r with
          | none => rfl
          | some o =>
            have := W.same r o e5
            rw [h2] at this
            cases this
        exact ⟨r, _, y', rfl, ⟨W.same.trans h1, hr, h3 y' e2⟩, by rw [est, e2]⟩
    cases step with
    | root =>
      have ha : SqT K H' a [vS [114, 111, 111, 116]] := ha
      walk_at "go"
      intro r hr
      exact fin r _ (same_new hr) hr fun y' e => by cases e; exact upd_same
    | up =>
      have ha : SqT K H' a [vS [117, 112]] := ha
      walk_at "go"
      intro r hr
      refine fin r _ (same_new hr) hr fun y' e => ?_
      cases e
      rw [cutN_last, upd_same, List.map_dropLast]
    | share n =>
      have ha : SqT K H' a [vS [115, 104, 97, 114, 101], vS n] := ha
      have e2 : ∃ y', look places n = some y' := by
        cases e2 : look places n with
        | some y' => exact ⟨y', rfl⟩
        | none =>
          have : walkP (look places) ss start = none := by
            have es : ss = ss.take (i + 1) ++ ss.drop (i + 1) := (List.take_append_drop _ _).symm
            rw [es, walkP_app, est]
            show (look places n).bind _ = none
            rw [e2]
            rfl
          rw [this] at e
          cases e
      obtain ⟨y', e2⟩ := e2
      walk_at "go"
      refine i_get (hd.same placeR_grows W.same) e2 fun v hv => ?_
      obtain ⟨x, rfl, hx⟩ := hv
      walk_at "go"
      refine i_listL (SqL.of hx) fun r hr => ?_
      walk_at "go"
      refine fin r _ (same_new hr) hr fun y2 e3 => ?_
      have : some y' = some y2 := e2.symm.trans e3
      cases this
      exact upd_same
    | name n =>
      have ha : SqT K H' a [vS [110, 97, 109, 101], vS n] := ha
      walk_at "go"
      intro r hr
      walk_at "go"
      refine i_cat (lk W.at_ hr) upd_same (by rw [List.length_map]; simp; omega) fun r2 hr2 => ?_
      walk_at "go"
      refine fin r2 _ ((same_new hr).trans (same_new hr2)) (new_ne hr2).2 fun y' e => ?_
      cases e
      rw [upd_same]
      simp
  · rintro σ H' ⟨u, z, y, rfl, W, ey⟩
    rw [List.take_length] at ey
    have : some y = some pl := ey.symm.trans e
    cases this
    walk_at "go"
    exact q u H' W.same W.new W.at_
end




theorem splitS_ln : ∀ l : List Nat, (splitS l).length ≤ l.length + 1 := splitS_len
theorem stepsP_ln : ∀ {ps : List (List Nat)} {ss : List Step}, stepsP ps = some ss → ss.length ≤ ps.length
  | [], ss, h => by
    cases h
    exact Nat.le_refl _
  | p :: r, ss, h => by
    rw [stepsP] at h
    cases e : stepOf p with
    | none =>
      rw [e] at h
      cases h
    | some t =>
      rw [e] at h
      obtain ⟨u, hu, rfl⟩ := Option.map_eq_some_iff.mp h
      have h1 := stepOf_len e
      have h2 := stepsP_ln hu
      simp
      omega
theorem stepsOf_ln {l : List Nat} {ss : List Step} (h : stepsOf l = some ss) : ss.length ≤ l.length + 2 := by
  obtain ⟨u, hu, rfl⟩ := Option.map_eq_some_iff.mp h
  have h1 := stepsP_ln hu
  have h2 := splitS_len l
  have h3 : (rootOf l).length ≤ 1 := by
    unfold rootOf
    split <;> simp
  simp
  omega
theorem walkP_fail {pl : List Nat → Option Place} {ss : List Step} {i : Nat} {s : Step} {p y : Place} (h : ss[i]? = some s) (e : walkP pl (ss.take i) p = some y) (e2 : stepP pl s y = none) : walkP pl ss p = none := by
  have es : ss = ss.take (i + 1) ++ ss.drop (i + 1) := (List.take_append_drop _ _).symm
  rw [es, walkP_app, walkP_take h e, e2]
  rfl
theorem fresh_back {H H' : Hp} {r : Addr} (s : Same H H') (h : H' r = none) : H r = none := by
  cases e : H r with
  | none => rfl
  | some o =>
    have := s r o e
    rw [h] at this
    cases this
section
variable {K : PySem.W.Frag} {C : Ad} {vs : List V} {H : Hp} {Q : VK} {E : XK}
def farParts (m u : Nat) : List (List Nat) := List.replicate m [97] ++ List.replicate u [46, 46] ++ [[98]]
def farSteps (m u : Nat) : List Step := List.replicate m (.name [97]) ++ List.replicate u .up ++ [.name [98]]
theorem stepsP_rep {p : List Nat} {s : Step} (h : stepOf p = some [s]) : ∀ k : Nat, stepsP (List.replicate k p) = some (List.replicate k s)
  | 0 => rfl
  | k + 1 => by
    rw [List.replicate_succ, stepsP, h]
    show (stepsP (List.replicate k p)).map _ = _
    rw [stepsP_rep h k]
    rfl
theorem stepsP_two {a b : List (List Nat)} {s t : List Step} (h : stepsP a = some s) (h2 : stepsP b = some t) : stepsP (a ++ b) = some (s ++ t) := by
  rw [stepsP_append, h]
  show (stepsP b).map _ = _
  rw [h2]
  rfl
theorem far_steps (m u : Nat) : stepsP (farParts m u) = some (farSteps m u) := stepsP_two (stepsP_two (stepsP_rep (by decide) m) (stepsP_rep (by decide) u)) (by decide)
theorem map_flat_rep (n : Nat) (v : V) : (List.replicate n [v]).flatten = List.replicate n v := by
  induction n with
  | zero => rfl
  | succ n ih =>
    rw [List.replicate_succ, List.flatten_cons, ih]
    rfl
theorem head_join {ps : List (List Nat)} {p : List Nat} {c : Nat} {r : List Nat} (h : ps.head? = some p) (e : p = c :: r) : (joinS ps).head? = some c := by
  match ps, h with
  | [x], h =>
    cases h
    rw [e]
    rfl
  | x :: y :: t, h =>
    cases h
    rw [e]
    rfl
theorem paired_rep {α β : Type} {R : α → β → Prop} {a : α} {b : β} (h : R a b) : ∀ n : Nat, Paired R (List.replicate n a) (List.replicate n b)
  | 0 => .nil
  | n + 1 => .cons h (paired_rep h n)
theorem nm97 : Nm [97] := ⟨fun c hc => by rw [List.mem_singleton.mp hc]; decide, by decide, by decide⟩
theorem nm98 : Nm [98] := ⟨fun c hc => by rw [List.mem_singleton.mp hc]; decide, by decide, by decide⟩
end




/-- a place's list that is not at lf -/
def placeX (lf : Addr) (H : Hp) (v : V) (pl : Place) : Prop := ∃ p, v = .ref p ∧ p ≠ lf ∧ H p = some (.lst (pl.map vS))
theorem placeX_grows (lf : Addr) : Grows (placeX lf) := fun _ _ _ _ s ⟨p, e, n, h⟩ => ⟨p, e, n, s _ _ h⟩
theorem placeX_r {lf : Addr} {H : Hp} {v : V} {pl : Place} (h : placeX lf H v pl) : placeR H v pl := by
  obtain ⟨p, e, _, h⟩ := h
  exact ⟨p, e, h⟩
theorem DictM.mono {β : Type} {R R' : Hp → V → β → Prop} {H H' : Hp} {a : Addr} {l : List (List Nat × β)} (h : DictM R H a l) (ha : ∀ kvs, H a = some (.dK kvs) → H' a = some (.dK kvs)) (hR : ∀ v b, R H v b → R' H' v b) : DictM R' H' a l := by
  obtain ⟨kvs, h1, h2⟩ := h
  exact ⟨kvs, ha _ h1, h2.mono hR⟩
theorem DictM.isD {β : Type} {R : Hp → V → β → Prop} {H : Hp} {a : Addr} {l : List (List Nat × β)} (h : DictM R H a l) : ∃ kvs, H a = some (.dK kvs) := by
  obtain ⟨kvs, h1, _⟩ := h
  exact ⟨kvs, h1⟩
theorem dict_ne_lst {H : Hp} {a b : Addr} {kvs : List (Key × V)} {xs : List V} (h1 : H a = some (.dK kvs)) (h2 : H b = some (.lst xs)) : a ≠ b := fun z => by
  rw [z, h2] at h1
  cases h1
section
variable {K : PySem.W.Frag} {H H' : Hp} {r s wt lf : Addr} {rows : Tab} {spots ex : List (List Nat × Place)} {wn ln : List (List Nat)} {i : Nat}
structure SetI (H H' : Hp) (s wt : Addr) (rows : Tab) (spots : List (List Nat × Place)) (wn : List (List Nat)) : Prop where
  same : Same H H'
  ns : H s = none
  nw : H wt = none
  hw : H' wt = some (.lst (wn.map vS))
  hd : DictM placeR H' s spots
  nd : (keys spots).Nodup
  wnd : wn.Nodup
  all : ∀ n ∈ keys rows, n ∈ keys spots ∨ n ∈ wn
  sub : ∀ n ∈ wn, n ∈ keys rows
  dis : ∀ n ∈ wn, n ∉ keys spots
  ok : ∀ n p, look spots n = some p → PlaceOf rows n p
  len : ∀ n p, look spots n = some p → p.length ≤ 500 * spots.length
  sz : spots.length + wn.length ≤ 500
structure PassI (H H' : Hp) (s wt lf : Addr) (rows : Tab) (spots ex : List (List Nat × Place)) (wn ln : List (List Nat)) (i : Nat) : Prop where
  same : Same H H'
  hw : H' wt = some (.lst (wn.map vS))
  hl : H' lf = some (.lst (ln.map vS))
  nl : H lf = none
  nlw : lf ≠ wt
  hd : DictM (placeX lf) H' s (spots ++ ex)
  nd : (keys (spots ++ ex)).Nodup
  cnt : ex.length + ln.length = i
  cov : ∀ n ∈ wn.take i, n ∈ keys ex ∨ n ∈ ln
  lsub : ∀ n ∈ ln, n ∈ wn.take i
  lnd : ln.Nodup
  exs : ∀ n ∈ keys ex, n ∈ wn.take i
  xl : ∀ n ∈ ln, n ∉ keys ex
  ok : ∀ n p, look (spots ++ ex) n = some p → PlaceOf rows n p
  len : ∀ n p, look (spots ++ ex) n = some p → p.length ≤ 500 * (spots ++ ex).length
  stuck : ex = [] → ∀ n ∈ ln, ∃ ss, look rows n = some ss ∧ ∃ m ∈ sharesOf ss, m ∉ keys spots
theorem mem_take_snoc {α : Type} {l : List α} {i : Nat} {c x : α} (h : l[i]? = some c) : x ∈ l.take (i + 1) ↔ x ∈ l.take i ∨ x = c := by
  rw [take_snoc h]
  simp
theorem not_in_take {α : Type} {l : List α} (hn : l.Nodup) {i : Nat} {c : α} (h : l[i]? = some c) : c ∉ l.take i := by
  intro hm
  have e := take_snoc h
  have : (l.take (i + 1)).Nodup := List.Nodup.sublist (List.take_sublist _ _) hn
  rw [e] at this
  have := (List.nodup_append.mp this).2.2 c hm c (by simp)
  exact this rfl
theorem PassI.other {q : Addr} {o : HO} (I : PassI H H' s wt lf rows spots ex wn ln i) (h : H' q = none) : PassI H (upd H' q o) s wt lf rows spots ex wn ln i :=
  { I with same := Same.new I.same h, hw := lk I.hw h, hl := lk I.hl h, hd := I.hd.same (placeX_grows lf) (same_new h) }
theorem PassI.grow {H2 : Hp} (I : PassI H H' s wt lf rows spots ex wn ln i) (h : Same H' H2) : PassI H H2 s wt lf rows spots ex wn ln i :=
  { I with same := I.same.trans h, hw := h _ _ I.hw, hl := h _ _ I.hl, hd := I.hd.same (placeX_grows lf) h }
/-- the name waits on -/
theorem PassI.wait {n : List Nat} {ss : List Step} (S : ∀ n ∈ wn, n ∉ keys spots) (hwn : wn.Nodup) (I : PassI H H' s wt lf rows spots ex wn ln i) (hn : wn[i]? = some n) (hr : look rows n = some ss) (hm : ∃ m ∈ sharesOf ss, m ∉ keys (spots ++ ex)) :
    PassI H (upd H' lf (.lst (ln.map vS ++ [vS n]))) s wt lf rows spots ex wn (ln ++ [n]) (i + 1) where
  same := Same.mut I.same I.nl
  hw := by
    rw [upd_ne (fun z => I.nlw z.symm)]
    exact I.hw
  hl := by rw [upd_same, map_snoc]
  nl := I.nl
  nlw := I.nlw
  hd := by
    obtain ⟨kvs, hk⟩ := I.hd.isD
    refine I.hd.mono (fun kvs h => ?_) fun v b ⟨p, e, np, hp⟩ => ⟨p, e, np, ?_⟩
    · rw [upd_ne (dict_ne_lst h I.hl)]
      exact h
    · rw [upd_ne np]
      exact hp
  nd := I.nd
  cnt := by
    have := I.cnt
    simp
    omega
  cov := fun x hx => by
    rcases (mem_take_snoc hn).mp hx with h | rfl
    · rcases I.cov x h with h | h
      · exact .inl h
      · exact .inr (List.mem_append.mpr (.inl h))
    · exact .inr (by simp)
  lsub := fun x hx => by
    rcases List.mem_append.mp hx with h | h
    · exact (mem_take_snoc hn).mpr (.inl (I.lsub x h))
    · exact (mem_take_snoc hn).mpr (.inr (List.mem_singleton.mp h))
  lnd := by
    refine List.nodup_append.mpr ⟨I.lnd, by simp, fun a ha c hc e => ?_⟩
    rw [List.mem_singleton.mp hc] at e
    rw [e] at ha
    exact not_in_take hwn hn (I.lsub n ha)
  exs := fun x hx => (mem_take_snoc hn).mpr (.inl (I.exs x hx))
  xl := fun x hx => by
    rcases List.mem_append.mp hx with h | h
    · exact I.xl x h
    · rw [List.mem_singleton.mp h]
      exact fun z => not_in_take hwn hn (I.exs n z)
  ok := I.ok
  len := I.len
  stuck := fun e x hx => by
    rcases List.mem_append.mp hx with h | h
    · exact I.stuck e x h
    · rw [List.mem_singleton.mp h]
      subst e
      rw [List.append_nil] at hm
      exact ⟨ss, hr, hm⟩
/-- the name has its place -/
theorem PassI.put {n : List Nat} {pl : Place} {p : Addr} {kvs : List (Key × V)} (S : ∀ n ∈ wn, n ∉ keys spots) (hwn : wn.Nodup) (I : PassI H H' s wt lf rows spots ex wn ln i) (ns : H s = none) (hn : wn[i]? = some n) (hp : H' p = some (.lst (pl.map vS))) (np : p ≠ lf)
    (hpl : PlaceOf rows n pl) (hlen : pl.length ≤ 500 * (spots ++ ex).length + 500) (hk : H' s = some (.dK kvs)) (hR : Rows (placeX lf H') kvs (spots ++ ex)) :
    PassI H (upd H' s (.dK (putK kvs (kS n) (.ref p)))) s wt lf rows spots (ex ++ [(n, pl)]) wn ln (i + 1) := by
  have hnw : n ∈ wn := List.mem_of_getElem? hn
  have hne : n ∉ keys ex := fun z => not_in_take hwn hn (I.exs n z)
  have hns : n ∉ keys (spots ++ ex) := by
    rw [keys_app]
    intro z
    rcases List.mem_append.mp z with z | z
    · exact S n hnw z
    · exact hne z
  have e0 : spots ++ (ex ++ [(n, pl)]) = (spots ++ ex) ++ [(n, pl)] := (List.append_assoc _ _ _).symm
  have keep : ∀ q xs, H' q = some (.lst xs) → upd H' s (.dK (putK kvs (kS n) (.ref p))) q = some (.lst xs) := fun q xs h => by
    rw [upd_ne (fun z => dict_ne_lst hk h z.symm)]
    exact h
  exact {
    same := Same.mut I.same ns
    hw := keep _ _ I.hw
    hl := keep _ _ I.hl
    nl := I.nl
    nlw := I.nlw
    hd := by
      rw [e0]
      refine ⟨_, upd_same, Rows.put (hR.mono fun v b ⟨q, e, nq, hq⟩ => ⟨q, e, nq, keep _ _ hq⟩) hns ⟨p, rfl, np, keep _ _ hp⟩⟩
    nd := by
      rw [e0]
      exact keys_snoc_nodup I.nd hns
    cnt := by
      have := I.cnt
      simp
      omega
    cov := fun x hx => by
      rw [keys_app]
      rcases (mem_take_snoc hn).mp hx with h | rfl
      · rcases I.cov x h with h | h
        · exact .inl (List.mem_append.mpr (.inl h))
        · exact .inr h
      · exact .inl (List.mem_append.mpr (.inr (by simp [keys])))
    lsub := fun x hx => (mem_take_snoc hn).mpr (.inl (I.lsub x hx))
    lnd := I.lnd
    exs := fun x hx => by
      rw [keys_app] at hx
      rcases List.mem_append.mp hx with h | h
      · exact (mem_take_snoc hn).mpr (.inl (I.exs x h))
      · exact (mem_take_snoc hn).mpr (.inr (by simpa [keys] using h))
    xl := fun x hx z => by
      rw [keys_app] at z
      rcases List.mem_append.mp z with h | h
      · exact I.xl x hx h
      · have : x = n := by simpa [keys] using h
        rw [this] at hx
        exact not_in_take hwn hn (I.lsub n hx)
    ok := fun m q h => by
      rw [e0] at h
      rcases look_snoc h with h | ⟨rfl, rfl⟩
      · exact I.ok m q h
      · exact hpl
    len := fun m q h => by
      rw [e0] at h ⊢
      have e1 : ((spots ++ ex) ++ [(n, pl)]).length = (spots ++ ex).length + 1 := by
        rw [List.length_append]
        rfl
      rw [e1]
      rcases look_snoc h with h | ⟨rfl, rfl⟩
      · have := I.len m q h
        omega
      · omega
    stuck := fun z => by simp at z }
/-- a pass done -/
theorem PassI.done (S : SetI H H0 s wt rows spots wn) (I : PassI H H' s wt lf rows spots ex wn ln wn.length) : SetI H H' s lf rows (spots ++ ex) ln where
  same := I.same
  ns := S.ns
  nw := I.nl
  hw := I.hl
  hd := I.hd.mono (fun _ h => h) fun v b h => placeX_r h
  nd := I.nd
  wnd := I.lnd
  all := fun n hn => by
    rw [keys_app]
    rcases S.all n hn with h | h
    · exact .inl (List.mem_append.mpr (.inl h))
    · rcases I.cov n (by rw [List.take_length]; exact h) with h | h
      · exact .inl (List.mem_append.mpr (.inr h))
      · exact .inr h
  sub := fun n hn => S.sub n (List.mem_of_mem_take (I.lsub n hn))
  dis := fun n hn z => by
    rw [keys_app] at z
    rcases List.mem_append.mp z with z | z
    · exact S.dis n (List.mem_of_mem_take (I.lsub n hn)) z
    · exact I.xl n hn z
  ok := I.ok
  len := I.len
  sz := by
    have h1 := I.cnt
    have h2 := S.sz
    simp
    omega
end
section
variable {K : PySem.W.Frag} {C : Ad} {vs : List V} {H : Hp} {Q : VK} {E : XK}
theorem rd_p_settled (h : sp_p_settled K C vs H Q E) : t_p_settled K C E (ends Q) (st 8 vs) H := by
  obtain ⟨r, rows, rfl, hr, hsm, hcl, q, e⟩ := h
  unfold t_p_settled
  walk_at "go"
  intro s hs
  walk_at "go"
  refine i_listD (hr.same stepsR_grows (same_new hs)).at fun wt hwt => ?_
  obtain ⟨hsw, hwt0⟩ := new_ne hwt
  walk_at "go"
  have hnum := hsm.num
  have hkl := keys_len rows
  refine ⟨fun m σ H' => ∃ wt spots wn y3 y4 y5 y6, σ = [some (.ref r), some (.ref s), some (.ref wt), y3, y4, y5, y6, none] ∧ m = wn.length ∧ SetI H H' s wt rows spots wn,
    ⟨(keys rows).length, wt, [], keys rows, none, none, none, none, rfl, rfl, ⟨(same_new hs).trans (same_new hwt), hs, hwt0, upd_same, ⟨[], lk upd_same hwt, .nil⟩, by simp [keys], hsm.nd, fun n hn => .inr hn, fun n hn => hn, (fun n _ => by simp [keys]), (fun n p h => nomatch h), (fun n p h => nomatch h), (by simp; omega)⟩⟩, ?_⟩
  rintro m σ H' ⟨wt, spots, wn, y3, y4, y5, y6, rfl, rfl, I⟩
  have hsz := I.sz
  walk_at "go"
  refine i_lenL (SqL.of I.hw) ?_
  walk_at "go"
  rw [List.length_map]
  refine i_ifD (fun h1 => ?_) (fun h1 => ?_)
  · refine ⟨_, fun _ _ h => h, ?_⟩
    walk_at "go"
    intro lf hlf
    have hlf0 : H lf = none := fresh_back I.same hlf
    have hlw : lf ≠ wt := fun z => by
      have := I.hw
      rw [← z, hlf] at this
      cases this
    walk_at "go"
    refine for_texts (ns := wn) (fun i σ H2 => ∃ ex ln y4 y5 y6, σ = [some (.ref r), some (.ref s), some (.ref wt), some (.ref lf), y4, y5, y6, none] ∧ PassI H H2 s wt lf rows spots ex wn ln i)
      ⟨[], [], y4, y5, y6, rfl, ⟨Same.new I.same hlf, lk I.hw hlf, upd_same, hlf0, hlw, ?_, by rw [List.append_nil]; exact I.nd, rfl, fun n hn => by simp at hn, fun n hn => by simp at hn, by simp, fun n hn => by simp [keys] at hn, fun n hn => by simp at hn, by rw [List.append_nil]; exact I.ok, by rw [List.append_nil]; exact I.len, fun _ n hn => by simp at hn⟩⟩ ?_ ?_ ?_
    · rw [List.append_nil]
      refine I.hd.mono (fun kvs h => lk h hlf) fun v b ⟨p, e, hp⟩ => ⟨p, e, ?_, lk hp hlf⟩
      intro z
      rw [z, hlf] at hp
      cases hp
    · rintro i σ H2 ⟨ex, ln, y4, y5, y6, rfl, J⟩
      exact SqL.of J.hw
    · rintro i n σ H2 hn ⟨ex, ln, y4, y5, y6, rfl, J⟩
      have hnw : n ∈ wn := List.mem_of_getElem? hn
      have hil : i < wn.length := (List.getElem?_eq_some_iff.mp hn).1
      obtain ⟨ss, hss⟩ := look_some_of_key (I.sub n hnw)
      have hsl := hsm.len n ss (look_mem hss)
      have hcnt := J.cnt
      have hshl : (sharesOf ss).length ≤ ss.length := by
        clear hss hsl
        induction ss with
        | nil => exact Nat.le_refl _
        | cons s r ih => cases s <;> simp [sharesOf] <;> omega
      walk_at "go"
      refine i_get (hr.same stepsR_grows J.same).at hss fun v hv => ?_
      obtain ⟨p, rfl, hp⟩ := hv
      walk_at "go"
      refine i_p_wanted hp (by omega) fun w hw => ?_
      have J2 := J.other (o := .lst ((sharesOf ss).map vS)) hw
      refine ⟨w, rfl, ⟨_, SqL.of upd_same⟩, fun D hD => ?_⟩
      refine lc_strF (ms := sharesOf ss) (fun m => .bl (decide (m ∈ keys (spots ++ ex)))) hD (SqL.of upd_same) (by omega) (fun x => rfl) (fun m H3 hm s3 Q' hq => ?_) ?_
      · walk_at "go"
        refine i_has (J2.hd.same (placeX_grows lf) s3).at fun o ho => ?_
        rw [ho]
        exact hq
      · have J3 := J2.other (o := .lst ((sharesOf ss).map fun m => V.bl (decide (m ∈ keys (spots ++ ex))))) hD
        walk_at "go"
        refine i_all (bs := (sharesOf ss).map fun m => decide (m ∈ keys (spots ++ ex))) ?_ ?_
        · rw [List.map_map]
          exact SqL.of upd_same
        generalize upd (upd H2 w (.lst ((sharesOf ss).map vS))) D (.lst ((sharesOf ss).map fun m => V.bl (decide (m ∈ keys (spots ++ ex))))) = H3 at *
        walk_at "go"
        refine i_ifB (fun h2 => ?_) (fun h2 => ?_)
        · have hall : ∀ m ∈ sharesOf ss, m ∈ keys (spots ++ ex) := by
            intro m hm
            rw [List.all_map, List.all_eq_true] at h2
            exact of_decide_eq_true (h2 m hm)
          walk_at "go"
          intro p0 hp0
          have J4 := J3.other (o := .lst []) hp0
          have hp0l : p0 ≠ lf := fun z => by
            have := J3.hl
            rw [← z, hp0] at this
            cases this
          walk_at "go"
          refine i_get (hr.same stepsR_grows J4.same).at hss fun v hv => ?_
          obtain ⟨p, rfl, hp⟩ := hv
          have hB : ∀ n p, look (spots ++ ex) n = some p → p.length ≤ 250000 := fun n p h => by
            have h1 := J4.len n p h
            have : (spots ++ ex).length ≤ 500 := by
              simp
              omega
            omega
          refine for_steps hp (fun k σ H5 => ∃ u y pl, σ = [some (.ref r), some (.ref s), some (.ref wt), some (.ref lf), some (vS n), some (.ref u), y, none] ∧ Same (upd H3 p0 (.lst [])) H5 ∧ PassI H H5 s wt lf rows spots ex wn ln i ∧ u ≠ lf ∧ H5 u = some (.lst (pl.map vS)) ∧ walkP (look (spots ++ ex)) (ss.take k) [] = some pl)
            ⟨p0, y6, [], rfl, Same.refl _, J4, hp0l, upd_same, rfl⟩ ?_ ?_ ?_
          · rintro k σ H5 ⟨u, y, pl, rfl, s5, _⟩
            exact s5
          · rintro k step a σ H5 hk ⟨u, y, pl, rfl, s5, J5, hul, hu, ew⟩ ha
            have hkl2 : k < ss.length := (List.getElem?_eq_some_iff.mp hk).1
            have htl : (ss.take k).length ≤ ss.length := by
              rw [List.length_take]
              omega
            have hpl := walkP_len (B := 250000) (k := 0) hB (by simp) ew
            have est := walkP_take hk ew
            obtain ⟨pl', e2⟩ : ∃ pl', stepP (look (spots ++ ex)) step pl = some pl' := by
              obtain ⟨z, hz⟩ := walkP_some (pl := look (spots ++ ex)) (ss := ss) [] fun m hm => look_some_of_key (hall m hm)
              cases e2 : stepP (look (spots ++ ex)) step pl with
              | some pl' => exact ⟨pl', rfl⟩
              | none =>
                rw [walkP_fail hk ew e2] at hz
                cases hz
            walk_at "go"
            refine i_p_gone hu (by omega) ⟨a, rfl, ha⟩ (J5.hd.mono (R' := placeR) (fun _ h => h) fun _ _ h => placeX_r h).at e2 fun u2 H6 s6 n6 h6 => ?_
            walk_at "go"
            have hu2 : u2 ≠ lf := fun z => by
              have := J5.hl
              rw [← z, n6] at this
              cases this
            exact ⟨u2, _, pl', rfl, s5.trans s6, J5.grow s6, hu2, h6, by rw [est, e2]⟩
          · rintro σ H5 ⟨u, y, pl, rfl, s5, J5, hul, hu, ew⟩
            rw [List.take_length] at ew
            have hpl := walkP_len (B := 500 * (spots ++ ex).length) (k := 0) J5.len (by simp) ew
            obtain ⟨kvs, hk, hkl2, hR⟩ := J5.hd.len
            have hexl : (spots ++ ex).length ≤ 500 := by
              simp
              omega
            walk_at "go"
            refine i_put hk (by omega) ?_
            exact ⟨_, ln, _, _, _, rfl, J5.put I.dis I.wnd I.ns hn hu hul (PlaceOf.new J5.ok hss ew) (by omega) hk hR⟩
        · have hsome : ∃ m ∈ sharesOf ss, m ∉ keys (spots ++ ex) := by
            rw [List.all_map] at h2
            have := List.all_eq_false.mp h2
            obtain ⟨m, hm, hn⟩ := this
            exact ⟨m, hm, fun z => hn (decide_eq_true z)⟩
          walk_at "go"
          refine i_tyL J3.hl ?_
          walk_at "go"
          refine i_append J3.hl (by rw [List.length_map]; omega) ?_
          exact ⟨ex, _, _, _, _, rfl, J3.wait I.dis I.wnd hn hss hsome⟩
    · rintro σ H2 ⟨ex, ln, y4, y5, y6, rfl, J⟩
      have hcnt := J.cnt
      walk_at "go"
      refine i_lenL (SqL.of J.hl) ?_
      walk_at "go"
      refine i_lenL (SqL.of J.hw) ?_
      walk_at "go"
      rw [List.length_map, List.length_map]
      refine i_ifD (fun h2 => ?_) (fun h2 => ?_)
      · walk_at "go"
        have hex : ex = [] := List.length_eq_zero_iff.mp (by omega)
        have hst := J.stuck hex
        refine e ?_ _ J.same
        obtain ⟨n, hn⟩ : ∃ n, n ∈ wn := by
          cases wn with
          | nil => simp at h1
          | cons n r => exact ⟨n, List.mem_cons_self⟩
        refine ⟨n, I.sub n hn, fun p ⟨k, hk⟩ => ?_⟩
        have := stuck (spots := spots) (wn := wn) hcl I.all (fun n hn => by
          rcases J.cov n (by rw [List.take_length]; exact hn) with h | h
          · rw [hex] at h
            simp [keys] at h
          · exact hst n h) k n hn
        rw [this] at hk
        cases hk
      · walk_at "go"
        exact ⟨ln.length, by omega, lf, spots ++ ex, ln, _, _, _, _, rfl, rfl, PassI.done I J⟩
  · walk_at "go"
    have hw0 : wn = [] := List.length_eq_zero_iff.mp (by omega)
    refine q s H' spots I.same I.hd ⟨I.nd, fun n => ⟨fun h => ?_, fun h => ?_⟩, I.ok⟩ (fun n p h => ?_) hs
    · obtain ⟨p, hp⟩ := look_some_of_key h
      exact (I.ok n p hp).key
    · rcases I.all n h with h | h
      · exact h
      · rw [hw0] at h
        cases h
    · have := I.len n p h
      omega
end




/-- a list, a tuple or something locked -/
def seqO : HO → Bool
  | .lst _ => true
  | .tup _ => true
  | .frz _ (.tup _) => true
  | _ => false
section
variable {K : PySem.W.Frag} {C : Ad} {H H' H2 : Hp} {x b : Addr} {u v : HO}
theorem sx_upd {o : HO} : SameX x H (upd H x o) := fun b o' ne h => by
  rw [upd_ne ne]
  exact h
theorem sx_of (s : Same H H') : SameX x H H' := fun b o _ h => s b o h
theorem sx_refl : SameX x H H := fun _ _ _ h => h
theorem SameX.trans (s : SameX x H H') (s2 : SameX x H' H2) : SameX x H H2 := fun b o ne h => s2 b o ne (s b o ne h)
theorem sx_get (hx : H x = some u) (hu : seqO u = false) (s : SameX x H H') (h : H b = some v) (hv : seqO v = true) : H' b = some v := by
  refine s b v (fun z => ?_) h
  rw [z, hx] at h
  cases h
  rw [hu] at hv
  cases hv
theorem sqt_sx {a : Addr} {xs : List V} (hx : H x = some u) (hu : seqO u = false) (s : SameX x H H') (h : SqT K H a xs) : SqT K H' a xs := by
  rcases h with (h | ⟨o, h⟩) | h
  · exact .inl (.inl (sx_get hx hu s h rfl))
  · exact .inl (.inr ⟨o, sx_get hx hu s h rfl⟩)
  · exact .inr h
theorem StepAt.sx {w : V} {st : Step} (hx : H x = some u) (hu : seqO u = false) (s : SameX x H H') (h : StepAt K H w st) : StepAt K H' w st := by
  obtain ⟨a, rfl, h⟩ := h
  exact ⟨a, rfl, sqt_sx hx hu s h⟩
theorem Steps.sx {p : Addr} {ss : List Step} (hx : H x = some u) (hu : seqO u = false) (s : SameX x H H') (h : Steps K H p ss) : Steps K H' p ss := by
  obtain ⟨us, h1, h2⟩ := h
  exact ⟨us, sx_get hx hu s h1 rfl, paired_mono (fun _ _ r => r.sx hx hu s) h2⟩
theorem stepsR_sx {w : V} {ss : List Step} (hx : H x = some u) (hu : seqO u = false) (s : SameX x H H') (h : stepsR K H w ss) : stepsR K H' w ss := by
  obtain ⟨p, rfl, h⟩ := h
  exact ⟨p, rfl, h.sx hx hu s⟩
theorem placeR_sx {w : V} {pl : Place} (hx : H x = some u) (hu : seqO u = false) (s : SameX x H H') (h : placeR H w pl) : placeR H' w pl := by
  obtain ⟨p, rfl, h⟩ := h
  exact ⟨p, rfl, sx_get hx hu s h rfl⟩
/-- back to all that was there -/
theorem same_back {kvs : HO} (h : H x = some kvs) (s : SameX x H H') : Same H (upd H' x kvs) := fun b o e => by
  by_cases z : b = x
  · rw [z] at e ⊢
    rw [upd_same, ← e, h]
  · rw [upd_ne z]
    exact s b o z e
theorem same_new_x (h : H x = none) (s : SameX x H H') : Same H H' := fun b o e => s b o (fun z => by rw [z, h] at e; cases e) e
end
theorem LinesRows.take_snoc {lines : List (List Nat × List Nat)} {rows : Tab} {i : Nat} {n l : List Nat} {ss : List Step} (h : LinesRows (lines.take i) rows) (hn : lines[i]? = some (n, l)) (e : stepsOf l = some ss) : LinesRows (lines.take (i + 1)) (rows ++ [(n, ss)]) := by
  rw [Pw.take_snoc hn]
  exact paired_app h (.cons ⟨rfl, e⟩ .nil)
section
variable {K : PySem.W.Frag} {C : Ad} {vs : List V} {H : Hp} {Q : VK} {E : XK}
theorem rd_p_Shares_init (X : FxSh K C) (h : sp_p_Shares_init K C vs H Q E) : t_p_Shares_init K C E (ends Q) (st 6 vs) H := by
  obtain ⟨x, t, dx, lines, rfl, hx, ht, hsm, q, eB, eN, eR⟩ := h
  have hnum := hsm.num
  have hnd := hsm.nd
  unfold t_p_Shares_init
  walk_at "go"
  intro r hr
  walk_at "go"
  obtain ⟨kvt, htk, htR⟩ := ht.same txtR_grows (same_new (o := .dK []) hr)
  have hrt : r ≠ t := fun z => by
    obtain ⟨k, hk⟩ := ht.isD
    rw [← z, hr] at hk
    cases hk
  refine for_itemsD (d := t) (l := lines) (R := txtR) (kvs := kvt) (fun _ _ q => ⟨_, rfl, q⟩) htk htR
    (fun i σ H' => ∃ rows y3 y4, σ = [some (.ref x), some (.ref t), some (.ref r), y3, y4, none] ∧ SameX t H H' ∧ DictM (stepsR K) H' r rows ∧ LinesRows (lines.take i) rows) ?_ ?_ ?_
  · intro od
    refine ⟨[], none, none, rfl, fun b o ne e => by rw [upd_ne ne]; exact lk e hr, ⟨[], ?_, .nil⟩, .nil⟩
    rw [upd_ne hrt]
    exact upd_same
  · rintro od i n l v σ H' T hi rfl ⟨rows, y3, y4, rfl, s, hd, hl⟩ ht' hT
    have hmem : (n, l) ∈ lines := List.mem_of_getElem? hi
    have hil : i < lines.length := (List.getElem?_eq_some_iff.mp hi).1
    refine ⟨T, _, rfl, SqT.of upd_same, rfl, ?_⟩
    refine ⟨_, _, rfl, ?_⟩
    walk_at "go"
    refine ⟨_, _, rfl, ?_⟩
    walk_at "go"
    refine ⟨rfl, ?_⟩
    walk_at "go"
    refine i_p_steps_of (by have := hsm.len n l hmem; omega) (fun ss p H5 e5 s5 h5 n5 => ?_) (fun e5 H5 s5 => eB ⟨n, l, hmem, e5⟩ H5)
    have hd5 := hd.same stepsR_grows ((same_new hT).trans s5)
    obtain ⟨kvr, hk, hkl, hR⟩ := hd5.len
    have hrl : rows.length ≤ i := by
      have := paired_len hl
      rw [List.length_take] at this
      omega
    have hnk : n ∉ keys rows := by
      rw [← LinesRows.keys hl]
      have e1 : keys (lines.take i) = (keys lines).take i := by simp [keys, List.map_take]
      rw [e1]
      refine not_in_take hnd ?_
      show (lines.map Prod.fst)[i]? = some n
      rw [List.getElem?_map, hi]
      rfl
    walk_at "go"
    refine i_put hk (by omega) ?_
    refine ⟨⟨rows ++ [(n, ss)], _, _, rfl, ?_, ⟨_, upd_same, Rows.put (hR.mono fun v b h => stepsR_sx hk rfl sx_upd h) hnk ⟨p, rfl, h5.sx hk rfl sx_upd⟩⟩, hl.take_snoc hi e5⟩, ?_⟩
    · intro b o ne hb
      have hbr : b ≠ r := fun z => by
        rw [z, hr] at hb
        cases hb
      rw [upd_ne hbr]
      exact s5 _ _ (same_new hT _ _ (s b o ne hb))
    · rw [upd_ne (fun z => hrt z.symm)]
      exact s5 _ _ (lk ht' hT)
  · rintro od σ H' ⟨rows, y3, y4, rfl, s, hd, hl⟩ hfz
    rw [List.take_length] at hl
    have ht0 : H t = some (.dK kvt) := by
      obtain ⟨k, hk⟩ := ht.isD
      have := lk (u := .dK []) hk hr
      rw [htk] at this
      cases this
      exact hk
    have s1 : Same H (upd H' t (.dK kvt)) := same_back ht0 s
    have hkeys := LinesRows.keys hl
    have hndr : (keys rows).Nodup := by rw [← hkeys]; exact hnd
    have hlen : rows.length = lines.length := by
      rw [← keys_len rows, ← hkeys, keys_len]
    have hd1 : DictM (stepsR K) (upd H' t (.dK kvt)) r rows := hd.mono (fun _ h => by rw [upd_ne hrt]; exact h) fun v b h => stepsR_sx hfz rfl sx_upd h
    have hmem : ∀ n ss, (n, ss) ∈ rows → ss.length ≤ 500 := by
      intro n ss hm
      obtain ⟨i, hi⟩ := List.mem_iff_getElem?.mp hm
      obtain ⟨⟨n', l⟩, h1, h2, h3⟩ := paired_getR hl hi
      exact hsm.steps n' l ss (List.mem_of_getElem? h1) h3
    have hsmall : Small rows := ⟨by omega, hmem, hndr⟩
    generalize upd H' t (.dK kvt) = H1 at *
    clear hfz s hd
    obtain ⟨kvr, hrk, hrl, hrR⟩ := hd1.len
    walk_at "go"
    refine for_keysD (d := r) (l := rows) (R := stepsR K) (kvs := kvr) (fun _ _ q => ⟨_, rfl, q⟩) hrk hrR
      (fun i σ H' => ∃ y3 y4 y5, σ = [some (.ref x), some (.ref t), some (.ref r), y3, y4, y5] ∧ SameX r H1 H' ∧ ∀ j n ss, j < i → rows[j]? = some (n, ss) → ∀ m ∈ sharesOf ss, m ∈ keys rows) ?_ ?_ ?_
    · intro od
      exact ⟨y3, y4, none, rfl, sx_upd, fun j n ss hj => absurd hj (Nat.not_lt_zero _)⟩
    · rintro od i n ss σ H' hi ⟨y3, y4, y5, rfl, s2, hcl⟩ hf2
      have hat : DictAt (stepsR K) H' r rows := ⟨kvr, .inr ⟨od, hf2⟩, hrR.mono fun v b h => stepsR_sx hrk rfl s2 h⟩
      have hlk := look_of_mem hndr (List.mem_of_getElem? hi)
      have hsl := hmem n ss (List.mem_of_getElem? hi)
      walk_at "go"
      refine i_get hat hlk fun v hv => ?_
      obtain ⟨p, rfl, hp⟩ := hv
      walk_at "go"
      refine i_p_wanted hp (by omega) fun w hw => ?_
      have s3 : SameX r H1 (upd H' w (.lst ((sharesOf ss).map vS))) := s2.trans (sx_of (same_new hw))
      have hf3 := lk (u := .lst ((sharesOf ss).map vS)) hf2 hw
      have hat3 := hat.same stepsR_grows (same_new (o := .lst ((sharesOf ss).map vS)) hw)
      have hw3 : upd H' w (.lst ((sharesOf ss).map vS)) w = some (.lst ((sharesOf ss).map vS)) := upd_same
      generalize upd H' w (.lst ((sharesOf ss).map vS)) = H3 at *
      refine for_texts (ns := sharesOf ss) (fun k σ H4 => ∃ y5, σ = [some (.ref x), some (.ref t), some (.ref r), some (vS n), y4, y5] ∧ H4 = H3 ∧ ∀ m ∈ (sharesOf ss).take k, m ∈ keys rows) ⟨y5, rfl, rfl, fun m hm => by simp at hm⟩ ?_ ?_ ?_
      · rintro k σ H4 ⟨y5, rfl, rfl, _⟩
        exact SqL.of hw3
      · rintro k m σ H4 hk ⟨y5, rfl, rfl, hin⟩
        have hmm : m ∈ sharesOf ss := List.mem_of_getElem? hk
        walk_at "go"
        refine i_has hat3 fun o ho => ?_
        rw [ho]
        walk_at "go"
        refine i_ifN (fun h1 => ?_) (fun h1 => ?_)
        · walk_at "go"
          exact eN rows hl (fun hc => h1 (hc n ss (List.mem_of_getElem? hi) m hmm)) _
        · walk_at "go"
          refine ⟨_, rfl, rfl, fun z hz => ?_⟩
          rcases (mem_take_snoc hk).mp hz with h | rfl
          · exact hin z h
          · exact h1
      · rintro σ H4 ⟨y5, rfl, rfl, hin⟩
        rw [List.take_length] at hin
        refine ⟨⟨_, _, _, rfl, s3, fun j n2 ss2 hj hj2 => ?_⟩, hf3⟩
        rcases Nat.lt_succ_iff_lt_or_eq.mp hj with h | rfl
        · exact hcl j n2 ss2 h hj2
        · rw [hi] at hj2
          cases hj2
          exact hin
    · rintro od2 σ H' ⟨y3, y4, y5, rfl, s2, hcl⟩ hf2
      have hclosed : Closed rows := fun n ss hm => by
        obtain ⟨j, hj⟩ := List.mem_iff_getElem?.mp hm
        exact hcl j n ss (List.getElem?_eq_some_iff.mp hj).1 hj
      have hd5 : DictM (stepsR K) (upd H' r (.dK kvr)) r rows := ⟨kvr, upd_same, hrR.mono fun v b h => stepsR_sx hf2 rfl sx_upd (stepsR_sx hrk rfl s2 h)⟩
      have s5 : Same H (upd H' r (.dK kvr)) := s1.trans (same_back hrk s2)
      generalize upd H' r (.dK kvr) = H5 at *
      walk_at "go"
      refine i_listD hd5.at fun w hw => ?_
      have hwn : H w = none := fresh_back s5 hw
      have hx6 := lk (u := .lst ((keys rows).map vS)) (s5 _ _ hx) hw
      have s6 : Same H (upd H5 w (.lst ((keys rows).map vS))) := s5.trans (same_new hw)
      have hw6 : upd H5 w (.lst ((keys rows).map vS)) w = some (.lst ((keys rows).map vS)) := upd_same
      have hd6 := hd5.same stepsR_grows (same_new (o := .lst ((keys rows).map vS)) hw)
      generalize upd H5 w (.lst ((keys rows).map vS)) = H6 at *
      walk_at "go"
      refine ⟨x, _, dx, _, rfl, hx6, X.cl, X.na_order, (by show 0 < 1000; decide), ?_⟩
      have sx7 : SameX x H6 (upd H6 x (.ins C.Sh dx (putF "order" (.ref w) []))) := sx_upd
      have hrx : r ≠ x := fun z => by
        rw [z, hx] at hr
        cases hr
      have hd7 : DictM (stepsR K) (upd H6 x (.ins C.Sh dx (putF "order" (.ref w) []))) r rows := hd6.mono (fun kvs h => by rw [upd_ne hrx]; exact h) fun v b h => stepsR_sx hx6 rfl sx7 h
      have hw7 : upd H6 x (.ins C.Sh dx (putF "order" (.ref w) [])) w = some (.lst ((keys rows).map vS)) := sx_get hx6 rfl sx7 hw6 rfl
      have hx7 : upd H6 x (.ins C.Sh dx (putF "order" (.ref w) [])) x = some (.ins C.Sh dx (putF "order" (.ref w) [])) := upd_same
      have s7 : SameX x H (upd H6 x (.ins C.Sh dx (putF "order" (.ref w) []))) := (sx_of s6).trans sx7
      generalize upd H6 x (.ins C.Sh dx (putF "order" (.ref w) [])) = H7 at *
      walk_at "go"
      refine i_p_settled hd7 hsmall hclosed (fun s H8 spots s8 hd8 hsp hsh ns => ?_) (fun h H8 _ => eR rows hl hclosed h H8)
      walk_at "go"
      refine ⟨x, _, dx, _, rfl, s8 _ _ hx7, X.cl, X.na_spots, (by show 1 < 1000; decide), ?_⟩
      have sx9 : SameX x H8 (upd H8 x (.ins C.Sh dx (putF "spots" (.ref s) (putF "order" (.ref w) [])))) := sx_upd
      have hsx : s ≠ x := fun z => by
        rw [z, hx7] at ns
        cases ns
      refine q rows spots _ hl hclosed hsp hsh ((s7.trans (sx_of s8)).trans sx9) ⟨dx, w, s, upd_same, ?_, hd8.mono (fun kvs h => by rw [upd_ne hsx]; exact h) fun v b h => placeR_sx (s8 _ _ hx7) rfl sx9 h⟩ ?_
      · rw [hkeys]
        exact sx_get (s8 _ _ hx7) rfl sx9 (s8 _ _ hw7) rfl
      · intro dx' o' s' z
        rw [upd_same] at z
        have e1 : o' = w ∧ s' = s := by
          have z2 := Option.some.inj z
          injection z2 with _ _ z3
          simp only [putF] at z3
          injection z3 with z4 z5
          injection z5 with z6 _
          injection z4 with _ z7
          injection z6 with _ z8
          injection z7 with z9
          injection z8 with z10
          exact ⟨z9.symm, z10.symm⟩
        rw [e1.1, e1.2]
        refine ⟨hwn, ?_⟩
        cases e : H s with
        | none => rfl
        | some o =>
          have := s7 s o hsx e
          rw [ns] at this
          cases this
end




section
variable {K : PySem.W.Frag} {C : Ad} {vs : List V} {H : Hp} {Q : VK} {E : XK}
end




theorem pairs_map {l : List (List Nat × List Nat)} : ∀ {m : List (List Nat × List Nat)}, (keys l).Nodup → (∀ x ∈ m, x ∈ l) → m = (keys m).map fun n => (n, (look l n).getD [])
  | [], _, _ => rfl
  | p :: r, hn, h => by
    have e := look_of_mem hn (show (p.1, p.2) ∈ l from h p List.mem_cons_self)
    have ih := pairs_map (m := r) hn fun x hx => h x (List.mem_cons_of_mem _ hx)
    show p :: r = (p.1, (look l p.1).getD []) :: (keys r).map _
    rw [e, ← ih]
    rfl
theorem perm_of_keys {l m : List (List Nat × List Nat)} (hn : (keys l).Nodup) (hm : ∀ x ∈ m, x ∈ l) (hk : (keys m).Perm (keys l)) : m.Perm l := by
  have h := hk.map fun n => (n, (look l n).getD [])
  rw [← pairs_map hn hm, ← pairs_map (m := l) hn fun x hx => hx] at h
  exact h
theorem insert_perm {α : Type} (l : List α) (i : Nat) (x : α) : (l.take i ++ [x] ++ l.drop i).Perm (l ++ [x]) := by
  have h1 : (l.take i ++ [x] ++ l.drop i).Perm (l.take i ++ (l.drop i ++ [x])) := by
    rw [List.append_assoc]
    exact List.Perm.append_left _ List.perm_append_comm
  rw [← List.append_assoc, List.take_append_drop] at h1
  exact h1
def sK (k : Nat) : List Nat := 115 :: numS k
theorem sK_nm : ∀ k < 40, (sK k).length ≤ 43 ∧ sK k ≠ [] ∧ ∀ c ∈ sK k, c ∈ signs := by decide
theorem sK_inj : ∀ i < 40, ∀ j < 40, sK i = sK j → i = j := by decide
theorem sK_path : ∀ k < 40, stepsOf ([64] ++ sK k ++ [47, 97]) = some [.share (sK k), .name [97]] := by decide +kernel
theorem sK_len : ∀ k < 40, (sK k).length ≤ 3 := by decide
theorem sK_Nm {k : Nat} (h : k < 40) : Nm (sK k) := by
  obtain ⟨h1, h2, h3⟩ := sK_nm k h
  exact ⟨h3, h2, h1⟩
def fortyP (k : Nat) : Place := [98] :: List.replicate k [97]
section
variable {K : PySem.W.Frag} {C : Ad} {vs : List V} {H : Hp} {Q : VK} {E : XK}
theorem nm_s0 : Nm [115, 48] := sK_Nm (k := 0) (by decide)
theorem forty_walk {lines : List (List Nat × List Nat)} {places : List (List Nat × Place)} {k : Nat} (h : look places (sK k) = some (fortyP k)) : walkP (look places) [.share (sK k), .name [97]] [] = some (fortyP (k + 1)) := by
  show (look places (sK k)).bind _ = _
  rw [h]
  show some (fortyP k ++ [[97]]) = _
  unfold fortyP
  rw [List.replicate_succ']
  rfl
theorem i_pair1 {tk tv : TE} {σ : L2.St} {Q : List (V × V) → Hp → Prop} (h : tk σ H fun x H1 => tv σ H1 fun y H2 => Q [(x, y)] H2) : tPairs [(tk, tv)] σ H Q := h
theorem i_disp {trs : List (TE × TE)} {σ : L2.St} (h : ∀ p, H p = none → tPairs trs σ (upd H p (.dK [])) fun ps H2 => H2 p = some (.dK []) ∧ ∃ kvs : List (Key × V), ps = kvs.map (fun kv => (kV kv.1, kv.2)) ∧ kvs.length ≤ 15 ∧ Q (.ref p) (upd H2 p (.dK (mergeK [] kvs)))) : tDisp trs σ H Q := h
end


/-! Comprehensions over locked dicts; objects of Shares where dicts change. -/


def SharesF (C : Ad) (H : Hp) (x dx o s : Addr) (names : List (List Nat)) (spots : List (List Nat × Place)) : Prop :=
  H x = some (.ins C.Sh dx [("order", .ref o), ("spots", .ref s)]) ∧ H o = some (.lst (names.map vS)) ∧ DictM placeR H s spots
section
variable {C : Ad} {H H' : Hp} {x dx o s d : Addr} {names : List (List Nat)} {spots : List (List Nat × Place)} {u : HO}
theorem SharesF.at (h : SharesF C H x dx o s names spots) : SharesAt C H x names spots := ⟨dx, o, s, h.1, h.2.1, h.2.2⟩
theorem SharesF.same (e : Same H H') (h : SharesF C H x dx o s names spots) : SharesF C H' x dx o s names spots := ⟨e _ _ h.1, e _ _ h.2.1, h.2.2.same placeR_grows e⟩
theorem SharesF.sx (hd : H d = some u) (hu : seqO u = false) (hn : ∀ A B fs, u ≠ .ins A B fs) (e : SameX d H H') (hs : s ≠ d) (h : SharesF C H x dx o s names spots) : SharesF C H' x dx o s names spots := by
  obtain ⟨h1, h2, h3⟩ := h
  refine ⟨e _ _ (fun z => ?_) h1, sx_get hd hu e h2 rfl, h3.mono (fun kvs h => e _ _ hs h) fun v b h => placeR_sx hd hu e h⟩
  rw [z, hd] at h1
  exact hn _ _ _ (Option.some.inj h1)
theorem SharesF.new (h : SharesNew C H H' x) (f : SharesF C H' x dx o s names spots) (hd : H d ≠ none) : s ≠ d := fun z => hd (by rw [← z]; exact (h dx o s f.1).2)
end
theorem DictM.sx {β : Type} {R : Hp → V → β → Prop} {H H' : Hp} {a d : Addr} {l : List (List Nat × β)} (hR : ∀ v b, R H v b → R H' v b) (e : SameX d H H') (hs : a ≠ d) (h : DictM R H a l) : DictM R H' a l := h.mono (fun kvs h => e _ _ hs h) hR
theorem sql_sx {K : PySem.W.Frag} {H H' : Hp} {a d : Addr} {u : HO} {xs : List V} (hd : H d = some u) (hu : ∀ ys, u ≠ .lst ys ∧ ∀ o, u ≠ .frz o (.lst ys)) (e : SameX d H H') (h : SqL K H a xs) : SqL K H' a xs := by
  rcases h with (h | ⟨o, h⟩) | h
  · refine .inl (.inl (e _ _ (fun z => ?_) h))
    rw [z, hd] at h
    exact (hu xs).1 (Option.some.inj h)
  · refine .inl (.inr ⟨o, e _ _ (fun z => ?_) h⟩)
    rw [z, hd] at h
    exact (hu xs).2 o (Option.some.inj h)
  · exact .inr h
theorem dne {H : Hp} {a b : Addr} {o : HO} (h : H a = some o) (hb : H b = none) : a ≠ b := ne_of_none h hb
/-- a locked dict, read -/
theorem dictAt_frz {β : Type} {R : Hp → V → β → Prop} {H : Hp} {d : Addr} {od : Obj} {kvs : List (Key × V)} {l : List (List Nat × β)} (h : H d = some (.frz od (.dK kvs))) (hR : Rows (R H) kvs l) : DictAt R H d l := ⟨kvs, .inr ⟨od, h⟩, hR⟩
theorem i_lockE {t : TE} {σ : L2.St} {H : Hp} {Q : VK} (h : ∃ d u, H d = some u ∧ Mut (some u) ∧ ∀ od, t σ (upd H d (.frz od u)) fun v H' => H' d = some (.frz od u) ∧ Q v (upd H' d u)) : tLockE t σ H Q := h
theorem i_lockS {t : TS} {D : Ends} {σ : L2.St} {H : Hp} (h : ∃ d u, H d = some u ∧ Mut (some u) ∧ ∀ od, t ⟨fun σ' H' => H' d = some (.frz od u) ∧ D.nx σ' (upd H' d u), fun v H' => H' d = some (.frz od u) ∧ D.rt v (upd H' d u), fun σ' H' => H' d = some (.frz od u) ∧ D.bk σ' (upd H' d u), fun σ' H' => H' d = some (.frz od u) ∧ D.ct σ' (upd H' d u)⟩ σ (upd H d (.frz od u))) : tLock t D σ H := h
section
variable {β : Type} {R : Hp → V → β → Prop} {H0 H1 : Hp} {d : Addr} {od : Obj} {kvs : List (Key × V)} {l : List (List Nat × β)} {i : Nat} {te : TE} {vs : List Nat} {σ : L2.St} {td : TE}
theorem lc_keysG {D : Addr} {Qd : Hp → Prop} (hR : Rows (R H0) kvs l) (hw : ∀ x, wipe ((wipe σ vs).set i (some x)) vs = wipe σ vs) (Pv : Nat → Hp → Prop) (h0 : Pv 0 (upd H1 D (.lst []))) (hf : ∀ k H, Pv k H → H d = some (.frz od (.dK kvs)))
    (hs : ∀ k n b H, l[k]? = some (n, b) → Pv k H → te ((wipe σ vs).set i (some (vS n))) H fun y H4 => ∃ acc, H4 D = some (.lst acc) ∧ acc.length < sizeLine ∧ Pv (k + 1) (upd H4 D (.lst (acc ++ [y])))) (hd : ∀ H, Pv l.length H → Qd H) :
    ∃ W : Nat → Nat → Hp → Prop, (∃ m, W 0 m (upd H1 D (.lst []))) ∧ ∀ i' m H, W i' m H →
      ((Itk d od kvs).stop i' H ∧ Qd H) ∨ ((Itk d od kvs).go i' H ∧ ∃ Nx : Hp → Prop, (∀ H', Nx H' → ∃ m', m' < m ∧ W (i' + 1) m' H') ∧ ∀ x H', (Itk d od kvs).yld i' H x H' → gName i x (wipe σ vs) H' fun σ2 H2 => wipe σ2 vs = wipe σ vs ∧ tYes σ2 H2 fun b H3 =>
        if b = true then te σ2 H3 fun y H4 => ∃ acc, H4 D = some (.lst acc) ∧ acc.length < sizeLine ∧ Nx (upd H4 D (.lst (acc ++ [y]))) else Nx H3) := by
  have hlen := paired_len hR
  refine lc_it walk_keys Pv h0 (fun k H _ p => hf k H p) ?_ (fun H p => hd H (by rw [hlen] at p; exact p))
  rintro k x H H' hk p ⟨rfl, key, v, hkv, rfl⟩
  obtain ⟨n, b, h1, rfl, _⟩ := hR.get hkv
  refine ⟨hw _, ?_⟩
  unfold tYes
  refine iteT ?_
  exact hs k n b H' h1 p
/-- [f(name) for name in dict], nothing made -/
theorem lc_keysF {Q : VK} (f : List Nat → V) (ht : ∀ H (Q : VK), Q (.ref d) H → td σ H Q) (hfz : H1 d = some (.frz od (.dK kvs))) (hR : Rows (R H0) kvs l) (hl : l.length ≤ 900000) (hw : ∀ x, wipe ((wipe σ vs).set i (some x)) vs = wipe σ vs)
    (he : ∀ n b H, (n, b) ∈ l → Same H1 H → ∀ Q : VK, Q (f n) H → te ((wipe σ vs).set i (some (vS n))) H Q)
    (hq : ∀ D, H1 D = none → Q (.ref D) (upd H1 D (.lst (l.map fun p => f p.1)))) : tLc (iKeys td) (gName i) tYes te vs σ H1 Q := by
  refine i_lc (ht _ _ ⟨d, od, rfl, .inl ⟨kvs, hfz, fun D hD => ?_⟩⟩)
  refine lc_keysG hR hw (fun k H => H = upd H1 D (.lst ((l.take k).map fun p => f p.1))) rfl (fun k H e => by rw [e]; exact lk hfz hD) ?_ ?_
  · rintro k n b H hk rfl
    have hkl : k < l.length := (List.getElem?_eq_some_iff.mp hk).1
    refine he n b _ (List.mem_of_getElem? hk) (same_new hD) _ ?_
    refine ⟨_, upd_same, to_lineL (by rw [List.length_map, List.length_take]; omega), ?_⟩
    rw [upd_upd, take_snoc hk]
    simp
  · rintro H rfl
    rw [List.take_length]
    exact hq D hD
/-- lists of texts at the addresses of vs -/
def LP (H : Hp) (vs : List V) (xs : List (List (List Nat))) : Prop := Paired (fun v ls => ∃ a, v = .ref a ∧ H a = some (.lst (ls.map vS))) vs xs
theorem LP.same {H H' : Hp} {vs : List V} {xs : List (List (List Nat))} (e : Same H H') (h : LP H vs xs) : LP H' vs xs := paired_mono (fun _ _ ⟨a, r, h⟩ => ⟨a, r, e _ _ h⟩) h
theorem LP.ll {K : PySem.W.Frag} {H : Hp} {vs : List V} {xs : List (List (List Nat))} (h : LP H vs xs) : LL K H vs xs := paired_mono (fun _ _ ⟨a, r, h⟩ => ⟨a, r, SqL.of h⟩) h
/-- [list for name in dict] -/
theorem lc_keysL {Q : VK} (f : List Nat → List (List Nat)) (ht : ∀ H (Q : VK), Q (.ref d) H → td σ H Q) (hfz : H1 d = some (.frz od (.dK kvs))) (hR : Rows (R H0) kvs l) (hl : l.length ≤ 900000) (hw : ∀ x, wipe ((wipe σ vs).set i (some x)) vs = wipe σ vs)
    (he : ∀ n b H D acc, (n, b) ∈ l → H1 D = none → Same H1 H → H D = some (.lst acc) → ∀ Q : VK, (∀ r H', Same H H' → r ≠ D → H' r = some (.lst ((f n).map vS)) → Q (.ref r) H') → te ((wipe σ vs).set i (some (vS n))) H Q)
    (hq : ∀ D H' us, Same H1 H' → H1 D = none → H' D = some (.lst us) → LP H' us (l.map fun p => f p.1) → Q (.ref D) H') : tLc (iKeys td) (gName i) tYes te vs σ H1 Q := by
  refine i_lc (ht _ _ ⟨d, od, rfl, .inl ⟨kvs, hfz, fun D hD => ?_⟩⟩)
  refine lc_keysG hR hw (fun k H => ∃ us, Same H1 H ∧ H D = some (.lst us) ∧ Paired (fun v ls => ∃ a, v = .ref a ∧ a ≠ D ∧ H a = some (.lst (ls.map vS))) us ((l.take k).map fun p => f p.1)) ⟨[], same_new hD, upd_same, .nil⟩ (fun k H ⟨us, s, _⟩ => s _ _ hfz) ?_ ?_
  · rintro k n b H hk ⟨us, s, hDu, hp⟩
    have hkl : k < l.length := (List.getElem?_eq_some_iff.mp hk).1
    have hul := paired_len hp
    rw [List.length_map, List.length_take] at hul
    refine he n b H D us (List.mem_of_getElem? hk) hD s hDu _ fun r H' s2 ne h2 => ?_
    refine ⟨us, s2 _ _ hDu, to_lineL (by omega), us ++ [.ref r], Same.mut (s.trans s2) hD, upd_same, ?_⟩
    rw [take_snoc hk, List.map_append]
    refine paired_app (paired_mono (fun _ _ ⟨a, e, na, h⟩ => ⟨a, e, na, by rw [upd_ne na]; exact s2 _ _ h⟩) hp) (.cons ⟨r, rfl, ne, by rw [upd_ne ne]; exact h2⟩ .nil)
  · rintro H ⟨us, s, hDu, hp⟩
    rw [List.take_length] at hp
    exact hq D H us s hD hDu (paired_mono (fun _ _ ⟨a, e, _, h⟩ => ⟨a, e, h⟩) hp)
theorem sx_lock {H H2 : Hp} {u : HO} (e : Same (upd H d (.frz od u)) H2) : SameX d H H2 := fun b o ne h => e b o (by rw [upd_ne ne]; exact h)
theorem lp_back {H2 : Hp} {u : HO} {us : List V} {xs : List (List (List Nat))} (hd : H2 d = some (.frz od (.dK kvs))) (h : LP H2 us xs) : LP (upd H2 d u) us xs := paired_mono (fun _ _ ⟨a, e, h⟩ => ⟨a, e, sx_get hd rfl sx_upd h rfl⟩) h
/-- [list for name in dict], the dict locked meanwhile -/
theorem i_lcE {H : Hp} {Q : VK} (f : List Nat → List (List Nat)) (ht : ∀ H (Q : VK), Q (.ref d) H → td σ H Q) (hd : H d = some (.dK kvs)) (hR : Rows (R H0) kvs l) (hl : l.length ≤ 900000) (hw : ∀ x, wipe ((wipe σ vs).set i (some x)) vs = wipe σ vs)
    (he : ∀ od n b H2 D acc, (n, b) ∈ l → H D = none → SameX d H H2 → H2 d = some (.frz od (.dK kvs)) → H2 D = some (.lst acc) → ∀ Q : VK, (∀ r H', Same H2 H' → r ≠ D → H' r = some (.lst ((f n).map vS)) → Q (.ref r) H') → te ((wipe σ vs).set i (some (vS n))) H2 Q)
    (hq : ∀ D H' us, Same H H' → H D = none → H' D = some (.lst us) → LP H' us (l.map fun p => f p.1) → Q (.ref D) H') : tLockE (tLc (iKeys td) (gName i) tYes te vs) σ H Q := by
  refine i_lockE ⟨d, .dK kvs, hd, trivial, fun od => ?_⟩
  refine lc_keysL f ht upd_same hR hl hw (fun n b H2 D acc hm hD s hDa Q' hq' => ?_) fun D H2 us s hD hDu hlp => ?_
  · refine he od n b H2 D acc hm ?_ (sx_lock s) (s _ _ upd_same) hDa Q' hq'
    rw [upd_ne (upd_none_ne hD)] at hD
    exact hD
  · have hf := s _ _ upd_same
    refine ⟨hf, hq D _ us (same_back hd (sx_lock s)) ?_ ?_ (lp_back hf hlp)⟩
    · rw [upd_ne (upd_none_ne hD)] at hD
      exact hD
    · rw [upd_ne (upd_none_ne hD)]
      exact hDu
theorem i_lcS {H : Hp} {j : Nat} {Dn : Ends} (f : List Nat → List (List Nat)) (ht : ∀ H (Q : VK), Q (.ref d) H → td σ H Q) (hd : H d = some (.dK kvs)) (hR : Rows (R H0) kvs l) (hl : l.length ≤ 900000) (hw : ∀ x, wipe ((wipe σ vs).set i (some x)) vs = wipe σ vs)
    (he : ∀ od n b H2 D acc, (n, b) ∈ l → H D = none → SameX d H H2 → H2 d = some (.frz od (.dK kvs)) → H2 D = some (.lst acc) → ∀ Q : VK, (∀ r H', Same H2 H' → r ≠ D → H' r = some (.lst ((f n).map vS)) → Q (.ref r) H') → te ((wipe σ vs).set i (some (vS n))) H2 Q)
    (hq : ∀ D H' us, Same H H' → H D = none → H' D = some (.lst us) → LP H' us (l.map fun p => f p.1) → Dn.nx (σ.set j (some (.ref D))) H') : tLock (tAsg (tLc (iKeys td) (gName i) tYes te vs) (gName j)) Dn σ H := by
  refine i_lockS ⟨d, .dK kvs, hd, trivial, fun od => ?_⟩
  refine i_asg ?_
  refine lc_keysL f ht upd_same hR hl hw (fun n b H2 D acc hm hD s hDa Q' hq' => ?_) fun D H2 us s hD hDu hlp => ?_
  · refine he od n b H2 D acc hm ?_ (sx_lock s) (s _ _ upd_same) hDa Q' hq'
    rw [upd_ne (upd_none_ne hD)] at hD
    exact hD
  · have hf := s _ _ upd_same
    refine i_name ⟨hf, hq D _ us (same_back hd (sx_lock s)) ?_ ?_ (lp_back hf hlp)⟩
    · rw [upd_ne (upd_none_ne hD)] at hD
      exact hD
    · rw [upd_ne (upd_none_ne hD)]
      exact hDu
end




structure HpOk (K : PySem.W.Frag) (H H' : Hp) (P S : Addr) (ps : List (List Nat)) (us : List V) (ms : List Step) : Prop where
  same : Same H H'
  hP : H P = none
  hS : H S = none
  ne : P ≠ S
  hp : H' P = some (.lst (ps.map vS))
  hs : H' S = some (.lst us)
  at_ : Paired (StepAt K H') us ms
theorem HpOk.grow {K : PySem.W.Frag} {H H' H2 : Hp} {P S : Addr} {ps : List (List Nat)} {us : List V} {ms : List Step} (h : HpOk K H H' P S ps us ms) (s : Same H' H2) : HpOk K H H2 P S ps us ms := ⟨h.same.trans s, h.hP, h.hS, h.ne, s _ _ h.hp, s _ _ h.hs, paired_mono (fun _ _ r => r.same s) h.at_⟩
theorem HpOk.putP {K : PySem.W.Frag} {H H' : Hp} {P S : Addr} {ps : List (List Nat)} {us : List V} {ms : List Step} (h : HpOk K H H' P S ps us ms) (qs : List (List Nat)) : HpOk K H (upd H' P (.lst (ps.map vS ++ qs.map vS))) P S (ps ++ qs) us ms := ⟨Same.mut h.same h.hP, h.hP, h.hS, h.ne, by rw [upd_same, List.map_append], by rw [upd_ne (fun z => h.ne z.symm)]; exact h.hs, paired_mono (fun _ _ r => r.upd h.hp) h.at_⟩
theorem HpOk.putS {K : PySem.W.Frag} {H H' : Hp} {P S : Addr} {ps : List (List Nat)} {us ws : List V} {ms tt : List Step} (h : HpOk K H H' P S ps us ms) (hw : Paired (StepAt K H') ws tt) : HpOk K H (upd H' S (.lst (us ++ ws))) P S ps (us ++ ws) (ms ++ tt) := ⟨Same.mut h.same h.hS, h.hP, h.hS, h.ne, by rw [upd_ne h.ne]; exact h.hp, upd_same, paired_app (paired_mono (fun _ _ r => r.upd h.hs) h.at_) (paired_mono (fun _ _ r => r.upd h.hs) hw)⟩
/-- parts and steps that are being drawn -/
structure PInv (names : List (List Nat)) (ps : List (List Nat)) (ms : List Step) (o k : Nat) : Prop where
  ok : ∀ s ∈ ms, StepOk names s
  num : ms.length ≤ k
  nps : ps.length = k
  fr : ∀ p ∈ ps, 47 ∉ p ∧ p.length ≤ 140
  le : o ≤ 2
  made : o = 0 → stepsP ps = some ms
  share : o = 1 → ∃ ss, stepsP ps = some ss ∧ ∃ n ∈ sharesOf ss, n ∉ names
  esc : o = 2 → stepsP ps = none
theorem PInv.zero (names : List (List Nat)) : PInv names [] [] 0 0 := ⟨(fun s h => nomatch h), by simp, rfl, (fun p h => nomatch h), by omega, fun _ => rfl, (fun h => nomatch h), fun h => nomatch h⟩
theorem stepsP_none {ps : List (List Nat)} {q : List Nat} (h : stepsP ps = none) : stepsP (ps ++ [q]) = none := by
  rw [stepsP_append, h]
theorem stepsP_noneR {ps : List (List Nat)} {q : List Nat} (h : stepOf q = none) : stepsP (ps ++ [q]) = none := by
  refine stepsP_bad (i := ps.length) (p := q) ?_ h
  simp
theorem PInv.fr2 {names ps : List (List Nat)} {ms : List Step} {o k : Nat} {q : List Nat} (h : PInv names ps ms o k) (hq : 47 ∉ q) (hl : q.length ≤ 140) : ∀ p ∈ ps ++ [q], 47 ∉ p ∧ p.length ≤ 140 := by
  intro p hp
  rcases List.mem_append.mp hp with z | z
  · exact h.fr p z
  · rw [List.mem_singleton.mp z]
    exact ⟨hq, hl⟩
theorem PInv.good {names ps : List (List Nat)} {ms sq : List Step} {o k : Nat} {q : List Nat} (h : PInv names ps ms o k) (hq : 47 ∉ q) (hl : q.length ≤ 140) (e : stepOf q = some sq) (hok : ∀ s ∈ sq, StepOk names s) : PInv names (ps ++ [q]) (ms ++ sq) o (k + 1) := by
  have hsq := stepOf_len e
  have hn := h.num
  have hp := h.nps
  refine ⟨fun s hs => (List.mem_append.mp hs).elim (h.ok s) (hok s), by rw [List.length_append]; omega, by simp [hp], h.fr2 hq hl, h.le, fun ho => stepsP_snoc (h.made ho) e, fun ho => ?_, fun ho => stepsP_none (h.esc ho)⟩
  obtain ⟨ss, h1, n, h2, h3⟩ := h.share ho
  exact ⟨ss ++ sq, stepsP_snoc h1 e, n, by rw [sharesOf_app]; exact List.mem_append_left _ h2, h3⟩
theorem PInv.odd {names ps : List (List Nat)} {ms : List Step} {o k : Nat} {q x : List Nat} (h : PInv names ps ms o k) (hq : 47 ∉ q) (hl : q.length ≤ 140) (e : stepOf q = some [.share x]) (hx : x ∉ names) : PInv names (ps ++ [q]) ms (if o = 0 then 1 else o) (k + 1) := by
  have hn := h.num
  have hp := h.nps
  have hle := h.le
  refine ⟨h.ok, by omega, by simp [hp], h.fr2 hq hl, by split <;> omega, fun ho => ?_, fun ho => ?_, fun ho => ?_⟩
  · split at ho
    · cases ho
    · omega
  · by_cases z : o = 0
    · exact ⟨ms ++ [.share x], stepsP_snoc (h.made z) e, x, by rw [sharesOf_app]; simp [sharesOf], hx⟩
    · rw [if_neg z] at ho
      obtain ⟨ss, h1, n, h2, h3⟩ := h.share ho
      exact ⟨ss ++ [.share x], stepsP_snoc h1 e, n, by rw [sharesOf_app]; exact List.mem_append_left _ h2, h3⟩
  · by_cases z : o = 0
    · rw [if_pos z] at ho
      cases ho
    · rw [if_neg z] at ho
      exact stepsP_none (h.esc ho)
theorem PInv.bad {names ps : List (List Nat)} {ms : List Step} {o k : Nat} {q : List Nat} (h : PInv names ps ms o k) (hq : 47 ∉ q) (hl : q.length ≤ 140) (e : stepOf q = none) : PInv names (ps ++ [q]) ms 2 (k + 1) := by
  have hn := h.num
  have hp := h.nps
  exact ⟨h.ok, by omega, by simp [hp], h.fr2 hq hl, by omega, (fun ho => nomatch ho), (fun ho => by omega), fun _ => stepsP_noneR e⟩
theorem PInv.done {names ps : List (List Nat)} {ms : List Step} {o k : Nat} (h : PInv names ps ms o k) (hk : k ≤ 5) : PathOdd names (joinS ps) (rootOf (joinS ps) ++ ms) o := by
  have hn := h.num
  have hp := h.nps
  have hrl : (rootOf (joinS ps)).length ≤ 1 ∧ ∀ s ∈ rootOf (joinS ps), s = .root := by
    unfold rootOf
    split <;> simp
  have hsum := sumL_le fun p hp => (h.fr p hp).2
  have hjl := joinS_len ps
  have few : ∀ ss, stepsOf (joinS ps) = some ss → ss.length ≤ 7 := by
    intro ss e
    by_cases z : ps = []
    · rw [z] at e
      have : stepsOf (joinS []) = some [] := rfl
      rw [this] at e
      cases e
      simp
    · obtain ⟨s0, h0, rfl⟩ := Option.map_eq_some_iff.mp e
      rw [split_join z fun p q => (h.fr p q).1] at h0
      have := stepsP_ln h0
      rw [List.length_append]
      omega
  refine ⟨fun s hs => ?_, by rw [List.length_append]; omega, by omega, h.le, fun ho => steps_join (h.made ho) fun p hp => (h.fr p hp).1, fun ho => ?_, fun ho => ?_, fun ss e => by have := few ss e; omega⟩
  · rcases List.mem_append.mp hs with z | z
    · rw [hrl.2 s z]
      trivial
    · exact h.ok s z
  · obtain ⟨ss, h1, n, h2, h3⟩ := h.share ho
    refine ⟨_, steps_join h1 fun p hp => (h.fr p hp).1, n, ?_, h3⟩
    rw [sharesOf_app]
    exact List.mem_append_right _ h2
  · have hne : ps ≠ [] := fun z => by
      have := h.esc ho
      rw [z] at this
      cases this
    rw [stepsOf, split_join hne fun p q => (h.fr p q).1, h.esc ho]
    rfl
theorem oddT_eq {o : Nat} (h : o ≤ 2) : oddT o = [109, 97, 100, 101] ↔ o = 0 := by
  match o, h with
  | 0, _ => simp [oddT]
  | 1, _ => simp [oddT]
  | 2, _ => simp [oddT]
def oddB : List (List Nat) := [[126], [97, 126, 57, 52], [64, 126, 49]]
theorem oddB_get : ∀ k < 3, ∃ q, oddB[k]? = some q ∧ 47 ∉ q ∧ q.length ≤ 140 ∧ stepOf q = none := by
  intro k hk
  match k, hk with
  | 0, _ => exact ⟨_, rfl, by decide, by decide, by decide⟩
  | 1, _ => exact ⟨_, rfl, by decide, by decide, by decide⟩
  | 2, _ => exact ⟨_, rfl, by decide, by decide, by decide⟩
theorem nm_ddd : Nm [46, 46, 46] := ⟨fun c hc => by
  simp only [List.mem_cons, List.not_mem_nil, or_false, or_self] at hc
  rw [hc]
  decide, by decide, by decide⟩
section
variable {K : PySem.W.Frag} {C : Ad} {vs : List V} {H : Hp} {Q : VK} {E : XK}
theorem rd_l_walk_k06 (h : sp_l_walk_k06 K C vs H Q E) : t_l_walk_k06 K C E (ends Q) (st 4 vs) H := rd_l_walk h
theorem said_B {W : WX} {D : Ends} {x0 x1 x2 : Option V} (X : FxV K C) (q : D.rt (vS escT) H) : wAs K (.ref C.P) 1 (fun a cls d => tSeq (tAsg (tOp qAddS (tOp qMulS (tC (vS [101, 115, 99, 97, 112, 101, 32])) (tCB qIntB (tCons (tCB (qIsE K a cls d) (tCons (tVar 1) (tCons (tC (.ref C.B)) (tNil)))) (tNil)))) (tOp qMulS (tC (vS [115, 104, 97, 114, 101, 32])) (tCB qIntB (tCons (tCB (qIsE K a cls d) (tCons (tVar 1) (tCons (tC (.ref C.N)) (tNil)))) (tNil))))) (gName 2))
  (tSeq (tAsg (tOp qAddS (tOp qAddS (tVar 2) (tOp qMulS (tC (vS [114, 105, 110, 103, 32])) (tCB qIntB (tCons (tCB (qIsE K a cls d) (tCons (tVar 1) (tCons (tC (.ref C.R)) (tNil)))) (tNil))))) (tOp qMulS (tC (vS [118, 97, 108, 117, 101])) (tCB qIntB (tCons (tCB (qIsE K a cls d) (tCons (tVar 1) (tCons (tC (.ty "ValueError")) (tNil)))) (tNil))))) (gName 2))
  (tRet (tVar 2)))) W D (.ref C.B) none [x0, x1, x2] H := by
  refine i_wAs X.m_B_P fun a2 ha2 => ?_
  walk_at "go"
  refine i_isEO X.eB X.k_B_B ?_
  walk_at "go"
  refine i_mulS (n := 1) rfl (by decide) (by decide) ?_
  walk_at "go"
  refine i_isEO X.eB X.k_B_N ?_
  walk_at "go"
  refine i_mulS (n := 0) rfl (by decide) (by decide) ?_
  refine i_addS (by decide) ?_
  walk_at "go"
  refine i_isEO X.eB X.k_B_R ?_
  walk_at "go"
  refine i_mulS (n := 0) rfl (by decide) (by decide) ?_
  refine i_addS (by decide) ?_
  walk_at "go"
  refine i_isET X.eB X.k_B_V ?_
  walk_at "go"
  refine i_mulS (n := 1) rfl (by decide) (by decide) ?_
  refine i_addS (by decide) ?_
  walk_at "go"
  exact q
theorem said_N {W : WX} {D : Ends} {x0 x1 x2 : Option V} (X : FxV K C) (q : D.rt (vS shareT) H) : wAs K (.ref C.P) 1 (fun a cls d => tSeq (tAsg (tOp qAddS (tOp qMulS (tC (vS [101, 115, 99, 97, 112, 101, 32])) (tCB qIntB (tCons (tCB (qIsE K a cls d) (tCons (tVar 1) (tCons (tC (.ref C.B)) (tNil)))) (tNil)))) (tOp qMulS (tC (vS [115, 104, 97, 114, 101, 32])) (tCB qIntB (tCons (tCB (qIsE K a cls d) (tCons (tVar 1) (tCons (tC (.ref C.N)) (tNil)))) (tNil))))) (gName 2))
  (tSeq (tAsg (tOp qAddS (tOp qAddS (tVar 2) (tOp qMulS (tC (vS [114, 105, 110, 103, 32])) (tCB qIntB (tCons (tCB (qIsE K a cls d) (tCons (tVar 1) (tCons (tC (.ref C.R)) (tNil)))) (tNil))))) (tOp qMulS (tC (vS [118, 97, 108, 117, 101])) (tCB qIntB (tCons (tCB (qIsE K a cls d) (tCons (tVar 1) (tCons (tC (.ty "ValueError")) (tNil)))) (tNil))))) (gName 2))
  (tRet (tVar 2)))) W D (.ref C.N) none [x0, x1, x2] H := by
  refine i_wAs X.m_N_P fun a2 ha2 => ?_
  walk_at "go"
  refine i_isEO X.eN X.k_N_B ?_
  walk_at "go"
  refine i_mulS (n := 0) rfl (by decide) (by decide) ?_
  walk_at "go"
  refine i_isEO X.eN X.k_N_N ?_
  walk_at "go"
  refine i_mulS (n := 1) rfl (by decide) (by decide) ?_
  refine i_addS (by decide) ?_
  walk_at "go"
  refine i_isEO X.eN X.k_N_R ?_
  walk_at "go"
  refine i_mulS (n := 0) rfl (by decide) (by decide) ?_
  refine i_addS (by decide) ?_
  walk_at "go"
  refine i_isET X.eN X.k_N_V ?_
  walk_at "go"
  refine i_mulS (n := 1) rfl (by decide) (by decide) ?_
  refine i_addS (by decide) ?_
  walk_at "go"
  exact q
theorem said_R {W : WX} {D : Ends} {x0 x1 x2 : Option V} (X : FxV K C) (q : D.rt (vS ringT) H) : wAs K (.ref C.P) 1 (fun a cls d => tSeq (tAsg (tOp qAddS (tOp qMulS (tC (vS [101, 115, 99, 97, 112, 101, 32])) (tCB qIntB (tCons (tCB (qIsE K a cls d) (tCons (tVar 1) (tCons (tC (.ref C.B)) (tNil)))) (tNil)))) (tOp qMulS (tC (vS [115, 104, 97, 114, 101, 32])) (tCB qIntB (tCons (tCB (qIsE K a cls d) (tCons (tVar 1) (tCons (tC (.ref C.N)) (tNil)))) (tNil))))) (gName 2))
  (tSeq (tAsg (tOp qAddS (tOp qAddS (tVar 2) (tOp qMulS (tC (vS [114, 105, 110, 103, 32])) (tCB qIntB (tCons (tCB (qIsE K a cls d) (tCons (tVar 1) (tCons (tC (.ref C.R)) (tNil)))) (tNil))))) (tOp qMulS (tC (vS [118, 97, 108, 117, 101])) (tCB qIntB (tCons (tCB (qIsE K a cls d) (tCons (tVar 1) (tCons (tC (.ty "ValueError")) (tNil)))) (tNil))))) (gName 2))
  (tRet (tVar 2)))) W D (.ref C.R) none [x0, x1, x2] H := by
  refine i_wAs X.m_R_P fun a2 ha2 => ?_
  walk_at "go"
  refine i_isEO X.eR X.k_R_B ?_
  walk_at "go"
  refine i_mulS (n := 0) rfl (by decide) (by decide) ?_
  walk_at "go"
  refine i_isEO X.eR X.k_R_N ?_
  walk_at "go"
  refine i_mulS (n := 0) rfl (by decide) (by decide) ?_
  refine i_addS (by decide) ?_
  walk_at "go"
  refine i_isEO X.eR X.k_R_R ?_
  walk_at "go"
  refine i_mulS (n := 1) rfl (by decide) (by decide) ?_
  refine i_addS (by decide) ?_
  walk_at "go"
  refine i_isET X.eR X.k_R_V ?_
  walk_at "go"
  refine i_mulS (n := 1) rfl (by decide) (by decide) ?_
  refine i_addS (by decide) ?_
  walk_at "go"
  exact q
theorem rd_l_said (X : FxV K C) (h : sp_l_said K C vs H Q E) : t_l_said K C E (ends Q) (st 3 vs) H := by
  obtain ⟨t, lines, rfl, hd, hsm, q⟩ := h
  unfold t_l_said
  walk_at "go"
  refine i_try ?_
  walk_at "go"
  intro x dx hx hdx hne
  have s1 : Same H (upd (upd H dx (.own x)) x (.ins C.Sh dx [])) := (same_new hdx).trans (same_new (by rw [upd_ne (fun z => hne z.symm)]; exact hx))
  refine ⟨x, t, dx, lines, rfl, upd_same, hd.same txtR_grows s1, hsm, fun rows spots H' r1 r2 r3 r4 r5 r6 r7 => ⟨rfl, ?_⟩, fun h1 H' => ?_, fun rows r1 r2 H' => ?_, fun rows r1 r2 r3 H' => ?_⟩
  · walk_at "go"
    refine q.made rows r1 r2 (fun n hn => ?_) H' (fun b o e => r5 b o (fun z => by rw [z, hx] at e; cases e) (s1 b o e))
    obtain ⟨p, hp⟩ := look_some_of_key ((r3.all n).mpr hn)
    exact ⟨p, r3.ok n p hp⟩
  · exact said_B X (q.esc h1 H')
  · exact said_N X (q.share rows r1 r2 H')
  · exact said_R X (q.ring rows r1 r2 r3 H')
theorem rd_l_row_of_forty_k06 (h : sp_l_row_of_forty_k06 K C vs H Q E) : t_l_row_of_forty_k06 K C E (ends Q) (st 3 vs) H := by
  obtain ⟨b, rfl, q⟩ := h
  unfold t_l_row_of_forty_k06
  walk_at "go"
  intro A hA
  walk_at "go"
  refine for_range (fun i σ H' => ∃ (z : Option V), σ = [some (.bl b), some (.ref A), z] ∧ Same H H' ∧ DictM txtR H' A ((List.range i).map fun k => (sK k, [97, 47, 64, 115] ++ (if k = 0 then [45, 49] else numS (k - 1))))) ⟨none, rfl, same_new hA, [], upd_same, .nil⟩ ?_ ?_
  · rintro i σ H' hi ⟨z, rfl, s, hd⟩
    have hi40 : i < 40 := by omega
    obtain ⟨kvs, hk, hkl, hR⟩ := hd.len
    rw [List.length_map, List.length_range] at hkl
    rw [Int.zero_add]
    walk_at "go"
    refine i_strZ (by omega) ?_
    refine i_addS (by
      have h1 : (if (i : Int) - 1 = -1 then [45, 49] else numS ((i : Int) - 1).toNat).length ≤ 2 := by
        split
        · simp
        · unfold numS
          split <;> simp
      simp only [List.length_cons, List.length_nil]
      omega) ?_
    walk_at "go"
    refine i_strZ (by omega) ?_
    rw [if_neg (by omega), Int.toNat_natCast]
    refine i_addS (by
      have h1 : (numS i).length ≤ 2 := by
        unfold numS
        split <;> simp
      simp only [List.length_cons, List.length_nil]
      omega) ?_
    refine i_put (n := sK i) hk (by omega) ?_
    refine ⟨_, rfl, Same.mut s hA, ?_⟩
    rw [List.range_succ, List.map_append]
    have e : (if (i : Int) - 1 = -1 then [45, 49] else numS ((i : Int) - 1).toNat) = (if i = 0 then [45, 49] else numS (i - 1)) := by
      by_cases z : i = 0
      · rw [if_pos z, if_pos (by omega)]
      · rw [if_neg z, if_neg (by omega)]
        congr 1
        omega
    rw [e]
    refine ⟨_, upd_same, Rows.put hR ?_ rfl⟩
    intro z
    unfold keys at z
    rw [List.map_map] at z
    obtain ⟨j, hj, e2⟩ := List.mem_map.mp z
    have hj := List.mem_range.mp hj
    have := sK_inj j (by omega) i hi40 e2
    omega
  · rintro σ H' ⟨z, rfl, s, hd⟩
    obtain ⟨kvs, hk, hkl, hR⟩ := hd.len
    rw [List.length_map, List.length_range] at hkl
    walk_at "go"
    intro T hT
    have s2 := s.trans (same_new (o := .lst [vS [47, 98], vS [64, 115, 51, 57]]) hT)
    have hk2 := lk (u := .lst [vS [47, 98], vS [64, 115, 51, 57]]) hk hT
    walk_at "go"
    refine i_ixL (i := if b = true then 1 else 0) (v := vS (if b = true then [64, 115, 51, 57] else [47, 98])) (by cases b <;> rfl) (SqL.of upd_same) (by cases b <;> rfl) ?_
    generalize upd H' T (.lst [vS [47, 98], vS [64, 115, 51, 57]]) = H2 at *
    walk_at "go"
    have hkl40 : kvs.length = 40 := hkl
    refine i_put hk2 (by omega) ?_
    walk_at "go"
    refine q A _ (Same.mut s2 hA) ?_
    have hsw := Rows.swap (v := vS (if b = true then [64, 115, 51, 57] else [47, 98])) (b := if b = true then [64, 115, 51, 57] else [47, 98]) hR (n := [115, 48]) (by decide +kernel) rfl
    have e : swap ((List.range (Int.toNat 40)).map fun k => (sK k, [97, 47, 64, 115] ++ (if k = 0 then [45, 49] else numS (k - 1)))) [115, 48] (if b = true then [64, 115, 51, 57] else [47, 98]) = fortyL b := by
      cases b <;> decide +kernel
    rw [e] at hsw
    exact ⟨_, upd_same, hsw⟩
end




def restL : List (List Nat) := [[], [46, 46], [97], [46, 46, 46]]
def restS : List (List Step) := [[], [.up], [.name [97]], [.name [46, 46, 46]]]
theorem rest_get (names : List (List Nat)) : ∀ k < 4, ∃ q sq, restL[k]? = some q ∧ restS[k]? = some sq ∧ 47 ∉ q ∧ q.length ≤ 140 ∧ stepOf q = some sq ∧ (∀ s ∈ sq, StepOk names s) ∧ sq.length ≤ 1 := by
  intro k hk
  match k, hk with
  | 0, _ => exact ⟨_, _, rfl, rfl, by decide, by decide, by decide, (fun s h => nomatch h), by simp⟩
  | 1, _ => exact ⟨_, _, rfl, rfl, by decide, by decide, by decide, (fun s h => by rw [List.mem_singleton.mp h]; trivial), by simp⟩
  | 2, _ => exact ⟨_, _, rfl, rfl, by decide, by decide, by decide, (fun s h => by rw [List.mem_singleton.mp h]; exact nm97), by simp⟩
  | 3, _ => exact ⟨_, _, rfl, rfl, by decide, by decide, by decide, (fun s h => by rw [List.mem_singleton.mp h]; exact nm_ddd), by simp⟩
theorem not_name {names : List (List Nat)} (h : ∀ n ∈ names, Nm n) {x : List Nat} (hx : x = [] ∨ 43 < x.length) : x ∉ names := fun z => by
  have h1 := (h x z).lo
  have h2 := (h x z).hi
  rcases hx with hx | hx
  · exact h1 hx
  · omega
section
variable {K : PySem.W.Frag} {C : Ad} {vs : List V} {H : Hp} {Q : VK} {E : XK}
theorem rd_l_path_of (h : sp_l_path_of K C vs H Q E) : t_l_path_of K C E (ends Q) (st 9 vs) H := by
  obtain ⟨c, N, names, rfl, hN, hnm, hn0, hn6, q⟩ := h
  unfold t_l_path_of
  walk_at "go"
  intro P hP
  have hP1 : upd H P (.lst []) P = some (.lst []) := upd_same
  walk_at "go"
  intro S hS
  obtain ⟨hPS, hS0⟩ := new_ne hS
  have s0 : Same H (upd (upd H P (.lst [])) S (.lst [])) := (same_new hP).trans (same_new hS)
  walk_at "go"
  refine for_range (fun i σ H' => ∃ (ps : List (List Nat)) (us : List V) (ms : List Step) (o : Nat) (z5 z6 z7 : Option V), σ = [some (.int c), some (.ref N), some (.ref P), some (.ref S), some (vS (oddT o)), z5, z6, z7, none] ∧ HpOk K H H' P S ps us ms ∧ PInv names ps ms o i) ⟨[], [], [], 0, none, none, none, rfl, ⟨s0, hP, hS0, hPS, lk hP1 hS, upd_same, .nil⟩, PInv.zero names⟩ ?_ ?_
  · rintro i σ H' hi ⟨ps, us, ms, o, z5, z6, z7, rfl, I, J⟩
    have hi6 : i < 6 := by omega
    have hul := paired_len I.at_
    have hml := J.num
    have hpl := J.nps
    have hN' := I.same.seq hN
    rw [Int.zero_add]
    walk_at "go"
    generalize (c / 6 + 5 * (i : Int) * (1 + c % 11)) % 23 = kind
    refine i_ifD (fun h1 => ?_) (fun h1 => ?_)
    · walk_at "go"
      rw [List.length_map]
      have hk1 : 0 ≤ (c / 138 + (i : Int)) % (names.length : Int) := Int.emod_nonneg _ (by omega)
      have hk2 : (c / 138 + (i : Int)) % (names.length : Int) < (names.length : Int) := Int.emod_lt_of_pos _ (by omega)
      obtain ⟨k, hk, hkl⟩ : ∃ k : Nat, (c / 138 + (i : Int)) % (names.length : Int) = (k : Int) ∧ k < names.length := ⟨((c / 138 + (i : Int)) % (names.length : Int)).toNat, by omega, by omega⟩
      rw [hk]
      have hge : names[k]? = some names[k] := List.getElem?_eq_getElem hkl
      have hmem : names[k] ∈ names := List.getElem_mem hkl
      generalize names[k] = n at hge hmem
      have hNm := hnm n hmem
      have hnh := hNm.hi
      refine i_ixL (i := k) (v := vS n) rfl hN' (by rw [List.getElem?_map, hge]; rfl) ?_
      walk_at "go"
      refine i_tyL I.hs ?_
      walk_at "go"
      intro t ht
      have I2 := I.grow (same_new (o := .tup [vS [115, 104, 97, 114, 101], vS n]) ht)
      have kt : SqT K (upd H' t (.tup [vS [115, 104, 97, 114, 101], vS n])) t (stepV (.share n)) := SqT.of upd_same
      generalize upd H' t (.tup [vS [115, 104, 97, 114, 101], vS n]) = H2 at *
      walk_at "go"
      refine i_append I2.hs (by omega) ?_
      have I3 : HpOk K H (upd H2 S (.lst (us ++ [.ref t]))) P S ps (us ++ [.ref t]) (ms ++ [.share n]) := I2.putS (.cons ⟨t, rfl, kt⟩ .nil)
      generalize upd H2 S (.lst (us ++ [.ref t])) = H3 at *
      walk_at "go"
      refine i_tyL I3.hp ?_
      walk_at "go"
      refine i_l_share_by hNm.nd (by omega) fun x t1 t2 t3 => ?_
      walk_at "go"
      refine i_append I3.hp (by rw [List.length_map]; omega) ?_
      exact ⟨_, _, _, _, _, _, _, rfl, I3.putP [64 :: x], J.good (by simp [t2]) (by simp; omega) (stepOf_share t1) fun s hs => by rw [List.mem_singleton.mp hs]; exact hmem⟩
    have t4 : 0 ≤ kind % 4 ∧ kind % 4 < 4 := by omega
    have rest : ∀ (D : Ends), (∀ σ H1, (∃ (ps : List (List Nat)) (us : List V) (ms : List Step) (o : Nat) (z5 z6 z7 : Option V), σ = [some (.int c), some (.ref N), some (.ref P), some (.ref S), some (vS (oddT o)), z5, z6, z7, none] ∧ HpOk K H H1 P S ps us ms ∧ PInv names ps ms o (i + 1)) → D.nx σ H1) →
        tSeq (tDrop (tBM K "list" rAppend (tVar 2) (tCons (tOp (qIxL K) (tLst (tCons (tC (vS [])) (tCons (tC (vS [46, 46])) (tCons (tC (vS [97])) (tCons (tC (vS [46, 46, 46])) (tNil)))))) (tOp qMod (tVar 6) (tC (.int 4)))) (tNil))))
          (tDrop (tBM K "list" rExtend (tVar 3) (tCons (tOp (qIxL K) (tLst (tCons (tLst (tNil)) (tCons (tLst (tCons (tTup (tCons (tC (vS [117, 112])) (tNil))) (tNil))) (tCons (tLst (tCons (tTup (tCons (tC (vS [110, 97, 109, 101])) (tCons (tC (vS [97])) (tNil)))) (tNil))) (tCons (tLst (tCons (tTup (tCons (tC (vS [110, 97, 109, 101])) (tCons (tC (vS [46, 46, 46])) (tNil)))) (tNil))) (tNil)))))) (tOp qMod (tVar 6) (tC (.int 4)))) (tNil)))) D [some (.int c), some (.ref N), some (.ref P), some (.ref S), some (vS (oddT o)), some (.int (i : Int)), some (.int kind), z7, none] H' := by
      intro D hD
      obtain ⟨x, sq, e1, e2, e3, e4, e5, e6, e7⟩ := rest_get names (kind % 4).toNat (by omega)
      walk_at "go"
      refine i_tyL I.hp ?_
      walk_at "go"
      intro t ht
      have I2 := I.grow (same_new (o := .lst [vS [], vS [46, 46], vS [97], vS [46, 46, 46]]) ht)
      walk_at "go"
      refine i_ixL (i := (kind % 4).toNat) (v := vS x) (by omega) (SqL.of upd_same) (by
        show (restL.map vS)[(kind % 4).toNat]? = _
        rw [List.getElem?_map, e1]
        rfl) ?_
      walk_at "go"
      refine i_append I2.hp (by rw [List.length_map]; omega) ?_
      have I3 : HpOk K H (upd (upd H' t (.lst [vS [], vS [46, 46], vS [97], vS [46, 46, 46]])) P (.lst (ps.map vS ++ [vS x]))) P S (ps ++ [x]) us ms := I2.putP [x]
      generalize upd (upd H' t (.lst [vS [], vS [46, 46], vS [97], vS [46, 46, 46]])) P (.lst (ps.map vS ++ [vS x])) = H3 at *
      walk_at "go"
      refine i_tyL I3.hs ?_
      walk_at "go"
      intro a0 g0
      have I4 := I3.grow (same_new (o := .lst []) g0)
      have k0 : upd H3 a0 (.lst []) a0 = some (.lst []) := upd_same
      generalize upd H3 a0 (.lst []) = H4 at *
      walk_at "go"
      intro t1 g1
      have I5 := I4.grow (same_new (o := .tup [vS [117, 112]]) g1)
      have k0 := lk (u := .tup [vS [117, 112]]) k0 g1
      have kt1 : SqT K (upd H4 t1 (.tup [vS [117, 112]])) t1 (stepV .up) := SqT.of upd_same
      generalize upd H4 t1 (.tup [vS [117, 112]]) = H5 at *
      walk_at "go"
      intro a1 g2
      have s6 := same_new (o := .lst [.ref t1]) g2
      have I6 := I5.grow s6
      have k0 := s6 _ _ k0
      have kt1 := Same.sqt s6 kt1
      have k1 : upd H5 a1 (.lst [.ref t1]) a1 = some (.lst [.ref t1]) := upd_same
      generalize upd H5 a1 (.lst [.ref t1]) = H6 at *
      walk_at "go"
      intro t2 g3
      have s7 := same_new (o := .tup [vS [110, 97, 109, 101], vS [97]]) g3
      have I7 := I6.grow s7
      have k0 := s7 _ _ k0
      have k1 := s7 _ _ k1
      have kt1 := Same.sqt s7 kt1
      have kt2 : SqT K (upd H6 t2 (.tup [vS [110, 97, 109, 101], vS [97]])) t2 (stepV (.name [97])) := SqT.of upd_same
      generalize upd H6 t2 (.tup [vS [110, 97, 109, 101], vS [97]]) = H7 at *
      walk_at "go"
      intro a2 g4
      have s8 := same_new (o := .lst [.ref t2]) g4
      have I8 := I7.grow s8
      have k0 := s8 _ _ k0
      have k1 := s8 _ _ k1
      have kt1 := Same.sqt s8 kt1
      have kt2 := Same.sqt s8 kt2
      have k2 : upd H7 a2 (.lst [.ref t2]) a2 = some (.lst [.ref t2]) := upd_same
      generalize upd H7 a2 (.lst [.ref t2]) = H8 at *
      walk_at "go"
      intro t3 g5
      have s9 := same_new (o := .tup [vS [110, 97, 109, 101], vS [46, 46, 46]]) g5
      have I9 := I8.grow s9
      have k0 := s9 _ _ k0
      have k1 := s9 _ _ k1
      have k2 := s9 _ _ k2
      have kt1 := Same.sqt s9 kt1
      have kt2 := Same.sqt s9 kt2
      have kt3 : SqT K (upd H8 t3 (.tup [vS [110, 97, 109, 101], vS [46, 46, 46]])) t3 (stepV (.name [46, 46, 46])) := SqT.of upd_same
      generalize upd H8 t3 (.tup [vS [110, 97, 109, 101], vS [46, 46, 46]]) = H9 at *
      walk_at "go"
      intro a3 g6
      have s10 := same_new (o := .lst [.ref t3]) g6
      have I10 := I9.grow s10
      have k0 := s10 _ _ k0
      have k1 := s10 _ _ k1
      have k2 := s10 _ _ k2
      have kt1 := Same.sqt s10 kt1
      have kt2 := Same.sqt s10 kt2
      have kt3 := Same.sqt s10 kt3
      have k3 : upd H9 a3 (.lst [.ref t3]) a3 = some (.lst [.ref t3]) := upd_same
      generalize upd H9 a3 (.lst [.ref t3]) = H10 at *
      walk_at "go"
      intro L g7
      have s11 := same_new (o := .lst [.ref a0, .ref a1, .ref a2, .ref a3]) g7
      have I11 := I10.grow s11
      have k0 := s11 _ _ k0
      have k1 := s11 _ _ k1
      have k2 := s11 _ _ k2
      have k3 := s11 _ _ k3
      have kt1 := Same.sqt s11 kt1
      have kt2 := Same.sqt s11 kt2
      have kt3 := Same.sqt s11 kt3
      have kL : upd H10 L (.lst [.ref a0, .ref a1, .ref a2, .ref a3]) L = some (.lst [.ref a0, .ref a1, .ref a2, .ref a3]) := upd_same
      generalize upd H10 L (.lst [.ref a0, .ref a1, .ref a2, .ref a3]) = H11 at *
      obtain ⟨b, zs, f1, f2, f3⟩ : ∃ (b : Addr) (zs : List V), ([.ref a0, .ref a1, .ref a2, .ref a3] : List V)[(kind % 4).toNat]? = some (.ref b) ∧ H11 b = some (.lst zs) ∧ Paired (StepAt K H11) zs sq := by
        have hk4 : (kind % 4).toNat < 4 := by omega
        generalize (kind % 4).toNat = j at *
        match j, hk4 with
        | 0, _ =>
          cases e2
          exact ⟨a0, [], rfl, k0, .nil⟩
        | 1, _ =>
          cases e2
          exact ⟨a1, _, rfl, k1, .cons ⟨t1, rfl, kt1⟩ .nil⟩
        | 2, _ =>
          cases e2
          exact ⟨a2, _, rfl, k2, .cons ⟨t2, rfl, kt2⟩ .nil⟩
        | 3, _ =>
          cases e2
          exact ⟨a3, _, rfl, k3, .cons ⟨t3, rfl, kt3⟩ .nil⟩
      have hzl := paired_len f3
      walk_at "go"
      refine i_ixL (i := (kind % 4).toNat) (by omega) (SqL.of kL) f1 ?_
      walk_at "go"
      refine i_extend I11.hs f2 (by omega) ?_
      exact hD _ _ ⟨_, _, _, _, _, _, _, rfl, I11.putS f3, J.good e3 e4 e5 e6⟩
    walk_at "go"
    refine i_ifD (fun h2 => ?_) (fun h2 => ?_)
    · walk_at "go"
      refine i_ifD (fun h3 => ?_) (fun h3 => ?_)
      · walk_at "go"
        refine i_tyL I.hp ?_
        walk_at "go"
        refine i_mulS (n := 60) rfl (by decide) (by decide) ?_
        walk_at "go"
        obtain ⟨k, hk, hk2⟩ : ∃ k : Nat, c / 138 % 2 = (k : Int) ∧ k < 2 := ⟨(c / 138 % 2).toNat, by omega, by omega⟩
        rw [hk]
        have hrl : (repL 60 [115]).length = 60 := by decide
        refine i_mulS (n := k) rfl (by rw [hrl]; omega) (by omega) ?_
        obtain ⟨x, hx, e1, e2, e3, e4⟩ : ∃ x : List Nat, repL k (repL 60 [115]) = x ∧ (x = [] ∨ 43 < x.length) ∧ x.length ≤ 60 ∧ 47 ∉ 64 :: x ∧ stepOf (64 :: x) = some [.share x] := by
          match k, hk2 with
          | 0, _ => exact ⟨[], rfl, .inl rfl, by decide, by decide, by decide⟩
          | 1, _ => exact ⟨repL 60 [115], by decide +kernel, .inr (by decide +kernel), by decide +kernel, by decide +kernel, by decide +kernel⟩
        rw [hx]
        refine i_addS (by simp; omega) ?_
        walk_at "go"
        refine i_append I.hp (by rw [List.length_map]; omega) ?_
        have I2 : HpOk K H (upd H' P (.lst (ps.map vS ++ [vS (64 :: x)]))) P S (ps ++ [64 :: x]) us ms := I.putP [64 :: x]
        have J2 := J.odd e3 (by simp; omega) e4 (not_name hnm e1)
        walk_at "go"
        refine i_ifD (fun h4 => ?_) (fun h4 => ?_)
        · walk_at "go"
          rw [if_pos ((oddT_eq J.le).mp h4)] at J2
          exact ⟨_, _, _, 1, _, _, _, rfl, I2, J2⟩
        · walk_at "go"
          rw [if_neg (fun z => h4 ((oddT_eq J.le).mpr z))] at J2
          exact ⟨_, _, _, o, _, _, _, rfl, I2, J2⟩
      · walk_at "go"
        refine i_ifD (fun h4 => absurd h4 (by omega)) (fun h4 => ?_)
        refine rest _ ?_
        exact fun _ _ h => h
    · walk_at "go"
      refine i_ifD (fun h4 => ?_) (fun h4 => ?_)
      · walk_at "go"
        refine i_ifD (fun h5 => ?_) (fun h5 => ?_)
        · walk_at "go"
          refine i_tyL I.hp ?_
          walk_at "go"
          intro t ht
          have I2 := I.grow (same_new (o := .lst [vS [126], vS [97, 126, 57, 52], vS [64, 126, 49]]) ht)
          obtain ⟨x, e1, e2, e3, e4⟩ := oddB_get (c / 138 % 3).toNat (by omega)
          walk_at "go"
          refine i_ixL (i := (c / 138 % 3).toNat) (v := vS x) (by omega) (SqL.of upd_same) (by
            show (oddB.map vS)[(c / 138 % 3).toNat]? = _
            rw [List.getElem?_map, e1]
            rfl) ?_
          walk_at "go"
          refine i_append I2.hp (by rw [List.length_map]; omega) ?_
          walk_at "go"
          exact ⟨_, _, _, 2, _, _, _, rfl, I2.putP [x], J.bad e2 e3 e4⟩
        · refine rest _ ?_
          exact fun _ _ h => h
      · refine rest _ ?_
        exact fun _ _ h => h
  · rintro σ H' ⟨ps, us, ms, o, z5, z6, z7, rfl, I, J⟩
    have hc6 : (c % 6).toNat ≤ 5 := by omega
    have hpl := J.nps
    have hml := J.num
    have hul := paired_len I.at_
    have hD := J.done hc6
    have hsum := sumL_le fun p hp => (J.fr p hp).2
    have hll := hD.len
    walk_at "go"
    refine i_join (SqL.of I.hp) (by omega) ?_
    generalize joinS ps = l at *
    walk_at "go"
    refine i_cut (fun σ2 H2 => ∃ w, σ2 = [some (.int c), some (.ref N), some (.ref P), some (.ref w), some (vS (oddT o)), z5, z6, z7, some (vS l)] ∧ Same H H2 ∧ H w = none ∧ Steps K H2 w (rootOf l ++ ms)) ?_ ?_
    · walk_at "go"
      rw [cutN_t1]
      refine i_ifD (fun h1 => ?_) (fun h1 => ?_)
      · walk_at "go"
        intro t ht
        walk_at "go"
        intro u hu
        walk_at "go"
        refine i_cat (xs := [.ref t]) upd_same (lk (lk I.hs ht) hu) (by simp; omega) fun w hw => ?_
        walk_at "go"
        refine ⟨w, rfl, Same.new (Same.new (Same.new I.same ht) hu) hw, fresh_back (Same.new (Same.new I.same ht) hu) hw, _, upd_same, ?_⟩
        rw [rootOf_yes h1]
        refine .cons ⟨t, rfl, ?_⟩ (paired_mono (fun _ _ r => ((r.same (same_new ht)).same (same_new hu)).same (same_new hw)) I.at_)
        exact Same.sqt (same_new hw) (Same.sqt (same_new hu) (SqT.of upd_same))
      · walk_at "go"
        refine ⟨S, rfl, I.same, I.hS, _, I.hs, ?_⟩
        rw [rootOf_no h1]
        exact I.at_
    · rintro σ2 H2 ⟨w, rfl, s2, hwn, hw2⟩
      walk_at "go"
      intro t ht
      exact q _ _ _ l _ o (Same.new s2 ht) (SqT.of upd_same) (hw2.same (same_new ht)) hwn hD
end




theorem placeF_nm {rows : Tab} (h : ∀ n ss, (n, ss) ∈ rows → ∀ m, Step.name m ∈ ss → Nm m) : ∀ (k : Nat) (n : List Nat) (p : Place), placeF rows k n = some p → AllNm p
  | 0, n, p, e => by cases e
  | k + 1, n, p, e => by
    rw [placeF] at e
    cases e2 : look rows n with
    | none =>
      rw [e2] at e
      cases e
    | some ss =>
      rw [e2] at e
      exact walkP_all (P := Nm) (fun a b hab => placeF_nm h k a b hab) (fun m hm => h n ss (look_mem e2) m hm) (fun x hx => (by cases hx)) e
theorem PlaceOf.nm {rows : Tab} (h : ∀ n ss, (n, ss) ∈ rows → ∀ m, Step.name m ∈ ss → Nm m) {n : List Nat} {p : Place} (e : PlaceOf rows n p) : AllNm p := by
  obtain ⟨k, hk⟩ := e
  exact placeF_nm h k n p hk
def hasS (spots : List (List Nat × Place)) : Step → Bool
  | .share m => decide (m ∈ keys spots)
  | .root => true
  | .up => true
  | .name _ => true
theorem hasS_all {spots : List (List Nat × Place)} {ss : List Step} : (ss.map (hasS spots)).all id = true ↔ ∀ m ∈ sharesOf ss, m ∈ keys spots := by
  rw [List.all_eq_true]
  constructor
  · intro h m hm
    have := h (hasS spots (.share m)) (List.mem_map.mpr ⟨_, sharesOf_mem.mp hm, rfl⟩)
    exact of_decide_eq_true this
  · rintro h b hb
    obtain ⟨s, hs, rfl⟩ := List.mem_map.mp hb
    cases s with
    | share m => exact decide_eq_true (h m (sharesOf_mem.mpr hs))
    | root => rfl
    | up => rfl
    | name m => rfl
/-- the places that are known after some turns -/
structure SpInv (rows : Tab) (spots : List (List Nat × Place)) : Prop where
  nd : (keys spots).Nodup
  ok : ∀ n p, look spots n = some p → PlaceOf rows n p
  len : ∀ n p, look spots n = some p → p.length ≤ 500 * spots.length
theorem SpInv.sub {rows : Tab} {spots : List (List Nat × Place)} (h : SpInv rows spots) : ∀ n ∈ keys spots, n ∈ keys rows := fun n hn => by
  obtain ⟨p, hp⟩ := look_some_of_key hn
  exact (h.ok n p hp).key
theorem SpInv.few {rows : Tab} {spots : List (List Nat × Place)} (h : SpInv rows spots) : spots.length ≤ rows.length := by
  have := nodup_sub_len h.nd h.sub
  rwa [keys_len, keys_len] at this
theorem SpInv.put {rows : Tab} {spots : List (List Nat × Place)} (h : SpInv rows spots) {n : List Nat} {ss : List Step} {p : Place} (hn : n ∉ keys spots) (e : look rows n = some ss) (hl : ss.length ≤ 500) (hw : walkP (look spots) ss [] = some p) : SpInv rows (spots ++ [(n, p)]) := by
  have hp := PlaceOf.new h.ok e hw
  have hpl := walkP_len (B := 500 * spots.length) (k := 0) h.len (show ([] : Place).length ≤ _ by simp) hw
  refine ⟨keys_snoc_nodup h.nd hn, fun m q hq => ?_, fun m q hq => ?_⟩
  · rcases look_snoc hq with z | ⟨rfl, rfl⟩
    · exact h.ok m q z
    · exact hp
  · rw [List.length_append, List.length_singleton]
    rcases look_snoc hq with z | ⟨rfl, rfl⟩
    · have := h.len m q z
      omega
    · omega
theorem more_placed {rows : Tab} {s0 s1 : List (List Nat × Place)} (hA : AllPl rows) (h0 : SpInv rows s0) (h1 : SpInv rows s1) (hsub : ∀ n ∈ keys s0, n ∈ keys s1) (hpr : ∀ n ss, (n, ss) ∈ rows → (∀ m ∈ sharesOf ss, m ∈ keys s0) → n ∈ keys s1) : s0.length + 1 ≤ s1.length ∨ ∀ n ∈ keys rows, n ∈ keys s1 := by
  by_cases hall : ∀ n ∈ keys rows, n ∈ keys s0
  · exact .inr fun n hn => hsub n (hall n hn)
  · left
    have : ∃ n ∈ keys rows, n ∉ keys s0 ∧ ∀ ss, look rows n = some ss → ∀ m ∈ sharesOf ss, m ∈ keys s0 := by
      apply Classical.byContradiction
      intro hno
      apply hall
      intro n hn
      apply Classical.byContradiction
      intro hns
      obtain ⟨p, k, hk⟩ := hA.all n hn
      have hst := stuck (rows := rows) (spots := s0) (wn := (keys rows).filter fun n => decide (n ∉ keys s0)) hA.closed (fun m hm => by
        by_cases z : m ∈ keys s0
        · exact .inl z
        · exact .inr (List.mem_filter.mpr ⟨hm, decide_eq_true z⟩)) (fun m hm => by
        obtain ⟨m1, m2⟩ := List.mem_filter.mp hm
        have m2 := of_decide_eq_true m2
        obtain ⟨ss, hss⟩ := look_some_of_key m1
        refine ⟨ss, hss, ?_⟩
        apply Classical.byContradiction
        intro hx
        refine hno ⟨m, m1, m2, fun ss2 e2 x hxm => ?_⟩
        rw [hss] at e2
        cases e2
        apply Classical.byContradiction
        intro hxk
        exact hx ⟨x, hxm, hxk⟩) k n (List.mem_filter.mpr ⟨hn, decide_eq_true hns⟩)
      rw [hst] at hk
      cases hk
    obtain ⟨n, hn, hns, hsh⟩ := this
    obtain ⟨ss, hss⟩ := look_some_of_key hn
    have hn1 := hpr n ss (look_mem hss) (hsh ss hss)
    have := nodup_sub_len (ks := n :: keys s0) (l := keys s1) (List.nodup_cons.mpr ⟨hns, h0.nd⟩) fun x hx => by
      rcases List.mem_cons.mp hx with rfl | hx
      · exact hn1
      · exact hsub x hx
    rw [List.length_cons, keys_len, keys_len] at this
    exact this
section
variable {K : PySem.W.Frag} {C : Ad} {vs : List V} {H : Hp} {Q : VK} {E : XK}
theorem i_lenDk {H : Hp} {Q : VK} {a : Addr} {kvs : List (Key × V)} (h : H a = some (.dK kvs)) (q : Q (.int (kvs.length : Nat)) H) : qLenD [.ref a] H Q := ⟨a, kvs, rfl, h, q⟩
theorem rd_l_places (h : sp_l_places K C vs H Q E) : t_l_places K C E (ends Q) (st 5 vs) H := by
  obtain ⟨r, rows, rfl, hd, hA, q⟩ := h
  have hnd := hA.small.nd
  have hrl := hA.len
  obtain ⟨kvr, hk, hkl, hR⟩ := hd.len
  unfold t_l_places
  walk_at "go"
  intro B hB
  have hBr : r ≠ B := dne hk hB
  walk_at "go"
  refine i_lenDk (lk hk hB) ?_
  walk_at "go"
  refine for_range (fun t σ H' => ∃ (spots : List (List Nat × Place)) (z2 z3 z4 : Option V), σ = [some (.ref r), some (.ref B), z2, z3, z4] ∧ Same H H' ∧ DictM placeR H' B spots ∧ SpInv rows spots ∧ (t ≤ spots.length ∨ ∀ n ∈ keys rows, n ∈ keys spots)) ⟨[], none, none, none, rfl, same_new hB, ⟨[], upd_same, .nil⟩, ⟨by simp [keys], (fun n p h => nomatch h), (fun n p h => nomatch h)⟩, .inl (Nat.le_refl _)⟩ ?_ ?_
  · rintro t σ H' ht ⟨s0, z2, z3, z4, rfl, s, hds, I0, hpg⟩
    refine for_keysD (d := r) (l := rows) (R := stepsR K) (kvs := kvr) (fun _ _ q => ⟨_, rfl, q⟩) (s _ _ hk) (hR.mono fun v b h => stepsR_grows _ _ _ _ s h)
      (fun i σ H' => ∃ (s1 : List (List Nat × Place)) (z3 z4 : Option V), σ = [some (.ref r), some (.ref B), some (.int (0 + (t : Int))), z3, z4] ∧ SameX r H H' ∧ DictM placeR H' B s1 ∧ SpInv rows s1 ∧ (∀ n ∈ keys s0, n ∈ keys s1) ∧ ∀ j n ss, j < i → rows[j]? = some (n, ss) → (∀ m ∈ sharesOf ss, m ∈ keys s0) → n ∈ keys s1) ?_ ?_ ?_
    · intro od
      exact ⟨s0, z3, z4, rfl, (sx_of s).trans sx_upd, hds.mono (fun kvs h => by rw [upd_ne hBr.symm]; exact h) fun v b h => placeR_sx (s _ _ hk) rfl sx_upd h, I0, fun n hn => hn, fun j n ss hj => absurd hj (Nat.not_lt_zero _)⟩
    · rintro od i n ss σ H1 hi ⟨s1, z3, z4, rfl, sx, hd1, I1, hsub, hpr⟩ hf
      have hmem := List.mem_of_getElem? hi
      have hlk := look_of_mem hnd hmem
      have hsl := hA.small.len n ss hmem
      have hat : DictAt (stepsR K) H1 r rows := ⟨kvr, .inr ⟨od, hf⟩, hR.mono fun v b h => stepsR_sx hk rfl sx h⟩
      have hfew := I1.few
      have fin : ∀ (s2 : List (List Nat × Place)), (∀ m ∈ keys s1, m ∈ keys s2) → ((∀ m ∈ sharesOf ss, m ∈ keys s1) → n ∈ keys s2) → (∀ m ∈ keys s0, m ∈ keys s2) ∧ ∀ j n ss, j < i + 1 → rows[j]? = some (n, ss) → (∀ m ∈ sharesOf ss, m ∈ keys s0) → n ∈ keys s2 := by
        intro s2 h1 h2
        refine ⟨fun m hm => h1 m (hsub m hm), fun j n' ss' hj hj2 hsh => ?_⟩
        rcases Nat.lt_succ_iff_lt_or_eq.mp hj with z | rfl
        · exact h1 _ (hpr j n' ss' z hj2 hsh)
        · rw [hi] at hj2
          cases hj2
          exact h2 fun m hm => hsub m (hsh m hm)
      walk_at "go"
      refine i_get hat hlk fun v hv => ?_
      obtain ⟨pr, rfl, hst⟩ := hv
      obtain ⟨us, hus, hatp⟩ := hst
      have hul := paired_len hatp
      refine ⟨pr, rfl, ⟨us, SqL.of hus⟩, fun D hD => ?_⟩
      refine lc_list (K := K) (a := pr) (xs := us) (fun k H' => H' = upd H1 D (.lst (((ss.take k).map (hasS s1)).map V.bl))) rfl (fun k H' _ e => by rw [e]; exact SqL.of (lk hus hD)) ?_ ?_
      · rintro k x H' hx rfl
        obtain ⟨s, hs, rr⟩ := paired_get hatp hx
        obtain ⟨a, rfl, ha⟩ := rr.same (same_new (o := .lst (((ss.take k).map (hasS s1)).map V.bl)) hD)
        have hkl : k < ss.length := (List.getElem?_eq_some_iff.mp hs).1
        have hacc : ∀ b : Bool, hasS s1 s = b → ∃ acc, upd H1 D (.lst (((ss.take k).map (hasS s1)).map V.bl)) D = some (.lst acc) ∧ acc.length < sizeLine ∧ upd (upd H1 D (.lst (((ss.take k).map (hasS s1)).map V.bl))) D (.lst (acc ++ [.bl b])) = upd H1 D (.lst (((ss.take (k + 1)).map (hasS s1)).map V.bl)) := by
          intro b hb
          refine ⟨_, upd_same, to_lineL (by rw [List.length_map, List.length_map, List.length_take]; omega), ?_⟩
          rw [upd_upd, take_snoc hs, ← hb]
          simp
        refine ⟨rfl, ?_⟩
        unfold tYes
        refine iteT ?_
        cases s with
        | root =>
          have ha : SqT K _ a [vS [114, 111, 111, 116]] := ha
          walk_at "go"
          refine i_ifN (fun _ => ?_) (fun z => absurd z (by decide))
          exact hacc true rfl
        | up =>
          have ha : SqT K _ a [vS [117, 112]] := ha
          walk_at "go"
          refine i_ifN (fun _ => ?_) (fun z => absurd z (by decide))
          exact hacc true rfl
        | name m =>
          have ha : SqT K _ a [vS [110, 97, 109, 101], vS m] := ha
          walk_at "go"
          refine i_ifN (fun _ => ?_) (fun z => absurd z (by decide))
          exact hacc true rfl
        | share m =>
          have ha : SqT K _ a [vS [115, 104, 97, 114, 101], vS m] := ha
          walk_at "go"
          refine i_has (hd1.same placeR_grows (same_new (o := .lst (((ss.take k).map (hasS s1)).map V.bl)) hD)).at fun o ho => ?_
          rw [ho]
          exact hacc _ rfl
      rintro H' rfl
      rw [hul, List.take_length]
      walk_at "go"
      refine i_all (SqL.of upd_same) ?_
      have sD := same_new (o := .lst ((ss.map (hasS s1)).map V.bl)) hD
      have hd2 := hd1.same placeR_grows sD
      have hf2 := lk (u := .lst ((ss.map (hasS s1)).map V.bl)) hf hD
      have sx2 : SameX r H (upd H1 D (.lst ((ss.map (hasS s1)).map V.bl))) := sx.trans (sx_of sD)
      generalize upd H1 D (.lst ((ss.map (hasS s1)).map V.bl)) = H2 at *
      walk_at "go"
      refine i_ifB (fun h1 => ?_) (fun h1 => ?_)
      · have hsh := hasS_all.mp h1
        obtain ⟨pl, hpl⟩ := walkP_some (pl := look s1) (ss := ss) [] fun m hm => look_some_of_key (hsh m hm)
        have hshort : Short 400000 s1 := fun m p e => by
          have := I1.len m p e
          omega
        walk_at "go"
        intro e he
        have s3 := same_new (o := .lst []) he
        have ke : upd H2 e (.lst []) e = some (.lst (([] : Place).map vS)) := upd_same
        have hd3 := hd2.same placeR_grows s3
        have hf3 := lk (u := .lst []) hf2 he
        have sx3 := sx2.trans (sx_of s3)
        generalize upd H2 e (.lst []) = H3 at *
        walk_at "go"
        refine i_get (R := stepsR K) (l := rows) ⟨kvr, .inr ⟨od, hf3⟩, hR.mono fun v b h => stepsR_sx hk rfl sx3 h⟩ hlk fun v hv => ?_
        obtain ⟨pr2, rfl, hst2⟩ := hv
        walk_at "go"
        refine i_l_walk (start := []) (SqL.of ke) hst2 hd3.at (by simp; omega) hshort hpl fun r3 H4 s4 n4 h4 => ?_
        obtain ⟨kvb, hkb, hkbl, hRb⟩ := (hd3.same placeR_grows s4).len
        have hf4 := s4 _ _ hf3
        have sx4 := sx3.trans (sx_of s4)
        walk_at "go"
        refine i_put hkb (by omega) ?_
        have hfz : upd H4 B (.dK (putK kvb (kS n) (.ref r3))) r = some (.frz od (.dK kvr)) := by
          rw [upd_ne hBr]
          exact hf4
        have sx5 : SameX r H (upd H4 B (.dK (putK kvb (kS n) (.ref r3)))) := fun b o ne e => by
          rw [upd_ne (fun z => by rw [z, hB] at e; cases e)]
          exact sx4 b o ne e
        have hR5 : Rows (placeR (upd H4 B (.dK (putK kvb (kS n) (.ref r3))))) kvb s1 := hRb.mono fun v b h => placeR_sx hkb rfl sx_upd h
        have hr5 : placeR (upd H4 B (.dK (putK kvb (kS n) (.ref r3)))) (.ref r3) pl := ⟨r3, rfl, sx_get hkb rfl sx_upd h4 rfl⟩
        by_cases hnk : n ∈ keys s1
        · obtain ⟨p0, hp0⟩ := look_some_of_key hnk
          have hpp : p0 = pl := (I1.ok n p0 hp0).uniq (PlaceOf.new I1.ok hlk hpl)
          subst hpp
          have hsw := Rows.swap hR5 hnk hr5
          rw [swap_same I1.nd hp0] at hsw
          obtain ⟨f1, f2⟩ := fin s1 (fun m hm => hm) fun _ => hnk
          exact ⟨⟨s1, _, _, rfl, sx5, ⟨_, upd_same, hsw⟩, I1, f1, f2⟩, hfz⟩
        · have hpt := Rows.put hR5 hnk hr5
          obtain ⟨f1, f2⟩ := fin (s1 ++ [(n, pl)]) (fun m hm => by rw [keys_app]; exact List.mem_append_left _ hm) fun _ => by rw [keys_app]; exact List.mem_append_right _ (by simp [keys])
          exact ⟨⟨_, _, _, rfl, sx5, ⟨_, upd_same, hpt⟩, I1.put hnk hlk hsl hpl, f1, f2⟩, hfz⟩
      · walk_at "go"
        obtain ⟨f1, f2⟩ := fin s1 (fun m hm => hm) fun z => by
          rw [hasS_all.mpr z] at h1
          cases h1
        exact ⟨⟨s1, _, _, rfl, sx2, hd2, I1, f1, f2⟩, hf2⟩
    · rintro od σ H1 ⟨s1, z3, z4, rfl, sx, hd1, I1, hsub, hpr⟩ hf
      refine ⟨s1, _, _, _, rfl, same_back hk sx, hd1.mono (fun kvs h => by rw [upd_ne hBr.symm]; exact h) fun v b h => placeR_sx hf rfl sx_upd h, I1, ?_⟩
      rcases more_placed hA I0 I1 hsub (fun n ss hm hs => by
        obtain ⟨j, hj⟩ := List.mem_iff_getElem?.mp hm
        exact hpr j n ss (List.getElem?_eq_some_iff.mp hj).1 hj hs) with z | z
      · rcases hpg with y | y
        · exact .inl (by omega)
        · exact .inr fun n hn => hsub n (y n hn)
      · exact .inr z
  · rintro σ H' ⟨spots, z2, z3, z4, rfl, s, hds, I, hpg⟩
    rw [Int.toNat_natCast, hkl] at hpg
    walk_at "go"
    refine q B H' spots s hB hds fun n hn => ?_
    have hin : n ∈ keys spots := by
      rcases hpg with y | y
      · apply Classical.byContradiction
        intro hno
        have := nodup_sub_len (ks := n :: keys spots) (l := keys rows) (List.nodup_cons.mpr ⟨hno, I.nd⟩) fun x hx => by
          rcases List.mem_cons.mp hx with rfl | hx
          · exact hn
          · exact I.sub x hx
        rw [List.length_cons, keys_len, keys_len] at this
        omega
      · exact y n hn
    obtain ⟨p, hp⟩ := look_some_of_key hin
    exact ⟨p, hp, I.ok n p hp⟩
theorem rd_l_stand (h : sp_l_stand K C vs H Q E) : t_l_stand K C E (ends Q) (st 6 vs) H := by
  obtain ⟨t, r, lines, rows, rfl, hd, hdr, hsm, hlr, hA, hnm, q⟩ := h
  have hnd := hA.small.nd
  unfold t_l_stand
  walk_at "go"
  intro x dx hx hdx hne
  have s1 : Same H (upd (upd H dx (.own x)) x (.ins C.Sh dx [])) := (same_new hdx).trans (same_new (by rw [upd_ne (fun z => hne z.symm)]; exact hx))
  refine ⟨x, t, dx, lines, rfl, upd_same, hd.same txtR_grows s1, hsm, fun rows2 spots H1 r1 r2 r3 r4 r5 r6 r7 => ⟨rfl, ?_⟩, fun ⟨n, l, h1, h2⟩ => ?_, fun rows2 r1 r2 => ?_, fun rows2 r1 r2 r3 => ?_⟩
  rotate_left
  · obtain ⟨i, hi⟩ := List.mem_iff_getElem?.mp h1
    obtain ⟨y, _, _, h3⟩ := paired_get hlr hi
    rw [h2] at h3
    cases h3
  · exact absurd (by rw [LinesRows.uniq r1 hlr]; exact hA.closed) r2
  · obtain ⟨n, hn, hno⟩ := r3
    rw [LinesRows.uniq r1 hlr] at hn hno
    obtain ⟨p, hp⟩ := hA.all n hn
    exact absurd hp (hno p)
  have hr2 : rows2 = rows := LinesRows.uniq r1 hlr
  subst hr2
  have s2 : Same H H1 := fun b o e => r5 b o (fun z => by rw [z, hx] at e; cases e) (s1 b o e)
  obtain ⟨dx1, oo, ss, hF⟩ := r6
  have hF : SharesF C H1 x dx1 oo ss (keys lines) spots := hF
  have hnew : SharesNew C H H1 x := fun dx' o' s' z => ⟨fresh_back0 s1 (r7 dx' o' s' z).1, fresh_back0 s1 (r7 dx' o' s' z).2⟩
  obtain ⟨kvr, hk, hkl, hR⟩ := hdr.len
  have hssr : ss ≠ r := hF.new hnew (by rw [hk]; simp)
  walk_at "go"
  refine i_l_places (hdr.same stepsR_grows s2) hA fun B H2 sp2 s3 nB hdB hpB => ?_
  have hF2 := hF.same s3
  have hk2 := (s2.trans s3) _ _ hk
  have hBr : B ≠ r := (dne (s2 _ _ hk) nB).symm
  walk_at "go"
  refine for_keysD (d := r) (l := rows2) (R := stepsR K) (kvs := kvr) (fun _ _ q => ⟨_, rfl, q⟩) hk2 (hR.mono fun v b h => stepsR_grows _ _ _ _ (s2.trans s3) h)
    (fun i σ H' => ∃ (z4 z5 : Option V), σ = [some (.ref t), some (.ref r), some (.ref x), some (.ref B), z4, z5] ∧ SameX r H2 H') ?_ ?_ ?_
  · intro od
    exact ⟨none, none, rfl, sx_upd⟩
  · rintro od i n sts σ H' hi ⟨z4, z5, rfl, s⟩ hf
    have hnk : n ∈ keys rows2 := List.mem_map.mpr ⟨_, List.mem_of_getElem? hi, rfl⟩
    obtain ⟨p2, hp2, hpo⟩ := hpB n hnk
    have hFc := hF2.sx hk2 rfl (fun _ _ _ z => nomatch z) s hssr
    have hdBc : DictM placeR H' B sp2 := hdB.sx (fun v b h => placeR_sx hk2 rfl s h) s hBr
    obtain ⟨p1, hp1⟩ := look_some_of_key ((r3.all n).mpr hnk)
    have hpp : p1 = p2 := (r3.ok n p1 hp1).uniq hpo
    subst hpp
    walk_at "go"
    refine hFc.at.met (fun _ _ => rfl) ?_
    walk_at "go"
    refine i_p_Shares_place hFc.at (fun pl r2 H3 h1 s4 n2 h2 => ?_) (fun h1 => ?_)
    · rw [hp1] at h1
      cases h1
      walk_at "go"
      refine i_isList h2 ?_
      walk_at "go"
      refine i_get (hdBc.same placeR_grows s4).at hp2 fun v hv => ?_
      obtain ⟨z, rfl, hz⟩ := hv
      have hc : ∀ l ∈ p1, Cps l := fun l hl => cps_named ((hpo.nm hnm) l hl).nd
      refine i_neLL (SqL.of h2) (SqL.of hz) hc hc ?_
      walk_at "go"
      exact ⟨⟨_, _, rfl, s.trans (sx_of s4)⟩, s4 _ _ hf⟩
    · rw [hp1] at h1
      cases h1
  · rintro od σ H' ⟨z4, z5, rfl, s⟩ hf
    walk_at "go"
    exact q _ ((s2.trans s3).trans (same_back hk2 s))
end




def rchR : Hp → V → Addr × List (List Nat) → Prop := fun H v b => v = .ref b.1 ∧ H b.1 = some (.dK (bk b.2))
abbrev RL := List (List Nat × (Addr × List (List Nat)))
theorem rchR_grows : Grows rchR := fun _ _ _ _ s ⟨e, h⟩ => ⟨e, s _ _ h⟩
theorem paired_mapMem {α β γ : Type} {R : α → β → Prop} {R' : α → γ → Prop} {f : β → γ} : ∀ {xs : List α} {ys : List β}, Paired R xs ys → (∀ x y, y ∈ ys → R x y → R' x (f y)) → Paired R' xs (ys.map f)
  | _, _, .nil, _ => .nil
  | _, _, .cons r t, h => .cons (h _ _ List.mem_cons_self r) (paired_mapMem t fun x y hy => h x y (List.mem_cons_of_mem _ hy))
theorem nodup_map_inj {α β : Type} {f : α → β} : ∀ {l : List α}, (l.map f).Nodup → ∀ {x y : α}, x ∈ l → y ∈ l → f x = f y → x = y
  | [], _, x, _, hx, _, _ => nomatch hx
  | a :: r, h, x, y, hx, hy, e => by
    obtain ⟨h1, h2⟩ := List.nodup_cons.mp (show (f a :: r.map f).Nodup from h)
    rcases List.mem_cons.mp hx with hx1 | hx1
    · rcases List.mem_cons.mp hy with hy1 | hy1
      · rw [hx1, hy1]
      · exact absurd (List.mem_map.mpr ⟨y, hy1, by rw [← e, hx1]⟩) h1
    · rcases List.mem_cons.mp hy with hy1 | hy1
      · exact absurd (List.mem_map.mpr ⟨x, hx1, by rw [e, hy1]⟩) h1
      · exact nodup_map_inj h2 hx1 hy1 e
def setR (l : RL) (n : List Nat) (ks : List (List Nat)) : RL := l.map fun e => if e.1 = n then (e.1, (e.2.1, ks)) else e
theorem keys_setR (l : RL) (n : List Nat) (ks : List (List Nat)) : keys (setR l n ks) = keys l := by
  unfold keys setR
  rw [List.map_map]
  refine List.map_congr_left fun e _ => ?_
  show (if e.1 = n then (e.1, (e.2.1, ks)) else e).1 = e.1
  split <;> rfl
theorem addr_setR (l : RL) (n : List Nat) (ks : List (List Nat)) : (setR l n ks).map (fun e => e.2.1) = l.map fun e => e.2.1 := by
  unfold setR
  rw [List.map_map]
  refine List.map_congr_left fun e _ => ?_
  show (if e.1 = n then (e.1, (e.2.1, ks)) else e).2.1 = e.2.1
  split <;> rfl
theorem look_setR {n : List Nat} {a : Addr} {ks ks' : List (List Nat)} : ∀ {l : RL}, look l n = some (a, ks) → look (setR l n ks') n = some (a, ks')
  | [], h => by cases h
  | e :: r, h => by
    by_cases z : e.1 = n
    · rw [look_pos z] at h
      have e1 : setR (e :: r) n ks' = (e.1, (e.2.1, ks')) :: setR r n ks' := by
        show (if e.1 = n then _ else _) :: _ = _
        rw [if_pos z]
        rfl
      rw [e1, look_pos (show (e.1, (e.2.1, ks')).1 = n from z)]
      have h := Option.some.inj h
      rw [h]
    · rw [look_neg z] at h
      have e1 : setR (e :: r) n ks' = e :: setR r n ks' := by
        show (if e.1 = n then _ else _) :: _ = _
        rw [if_neg z]
        rfl
      rw [e1, look_neg z]
      exact look_setR h
theorem look_setR_ne {n m : List Nat} {ks' : List (List Nat)} (hm : m ≠ n) : ∀ {l : RL}, look (setR l n ks') m = look l m
  | [] => rfl
  | e :: r => by
    by_cases y : e.1 = m
    · have z : e.1 ≠ n := fun q => hm (by rw [← y, q])
      have e1 : setR (e :: r) n ks' = e :: setR r n ks' := by
        show (if e.1 = n then _ else _) :: _ = _
        rw [if_neg z]
        rfl
      rw [e1, look_pos y, look_pos y]
    · have e1 : setR (e :: r) n ks' = (if e.1 = n then (e.1, (e.2.1, ks')) else e) :: setR r n ks' := rfl
      have y2 : (if e.1 = n then (e.1, (e.2.1, ks')) else e).1 ≠ m := by
        split
        · exact y
        · exact y
      rw [e1, look_neg y2, look_neg y]
      exact look_setR_ne hm
/-- the dict of dicts -/
structure RInv (H H' : Hp) (R0 : Addr) (l : RL) : Prop where
  dict : DictM rchR H' R0 l
  nd : (keys l).Nodup
  ad : (l.map fun e => e.2.1).Nodup
  fr : ∀ e ∈ l, H e.2.1 = none ∧ e.2.1 ≠ R0
theorem RInv.grow {H H' H2 : Hp} {R0 : Addr} {l : RL} (h : RInv H H' R0 l) (s : Same H' H2) : RInv H H2 R0 l := ⟨h.dict.same rchR_grows s, h.nd, h.ad, h.fr⟩
theorem RInv.other {H H' : Hp} {R0 d : Addr} {l : RL} {u o : HO} (h : RInv H H' R0 l) (hd : H d = some o) (hR : R0 ≠ d) : RInv H (upd H' d u) R0 l := by
  obtain ⟨kvs, h1, h2⟩ := h.dict
  refine ⟨⟨kvs, by rw [upd_ne hR]; exact h1, ?_⟩, h.nd, h.ad, h.fr⟩
  have := paired_mapMem (f := fun x => x) (R' := fun (kv : Key × V) (p : List Nat × (Addr × List (List Nat))) => kv.1 = kS p.1 ∧ rchR (upd H' d u) kv.2 p.2) h2 fun x y hy ⟨r1, r2, r3⟩ => ⟨r1, r2, by rw [upd_ne (fun z => by have := (h.fr y hy).1; rw [z, hd] at this; cases this)]; exact r3⟩
  rw [List.map_id'] at this
  exact this
theorem RInv.set {H H' : Hp} {R0 a : Addr} {l : RL} {n : List Nat} {ks ks' : List (List Nat)} (h : RInv H H' R0 l) (e : look l n = some (a, ks)) : RInv H (upd H' a (.dK (bk ks'))) R0 (setR l n ks') := by
  obtain ⟨kvs, h1, h2⟩ := h.dict
  have hm := look_mem e
  refine ⟨⟨kvs, by rw [upd_ne (fun z => (h.fr _ hm).2 z.symm)]; exact h1, ?_⟩, by rw [keys_setR]; exact h.nd, by rw [addr_setR]; exact h.ad, fun x hx => ?_⟩
  · refine paired_mapMem h2 fun x y hy ⟨r1, r2, r3⟩ => ?_
    by_cases z : y.1 = n
    · have hy2 : y = (n, (a, ks)) := by
        have e2 := look_of_mem h.nd (show (y.1, y.2) ∈ l from hy)
        rw [z, e] at e2
        have e3 := Option.some.inj e2
        exact Prod.ext z e3.symm
      rw [if_pos z]
      subst hy2
      exact ⟨r1, r2, upd_same⟩
    · rw [if_neg z]
      refine ⟨r1, r2, ?_⟩
      rw [upd_ne]
      · exact r3
      · intro q
        have := nodup_map_inj h.ad hy hm q
        exact z (by rw [this])
  · obtain ⟨y, hy, rfl⟩ := List.mem_map.mp hx
    have := h.fr y hy
    split
    · exact this
    · exact this
theorem RInv.get {H H' : Hp} {R0 a : Addr} {l : RL} {n : List Nat} {ks : List (List Nat)} (h : RInv H H' R0 l) (e : look l n = some (a, ks)) : H' a = some (.dK (bk ks)) ∧ H a = none := by
  obtain ⟨kvs, h1, h2⟩ := h.dict
  obtain ⟨v, _, _, h3⟩ := h2.look e
  exact ⟨h3, (h.fr _ (look_mem e)).1⟩
/-- a set as a dict, read -/
theorem bk_at {H : Hp} {a : Addr} {ks : List (List Nat)} (h : H a = some (.dK (bk ks))) : DictAt (fun _ v (_ : Unit) => v = V.bl true) H a (ks.map fun k => (k, ())) := ⟨bk ks, .inl h, bk_rows ks⟩
/-- what the sets hold -/
structure SInv (wants : List (List Nat × Place)) (l : RL) : Prop where
  nd : ∀ n a ks, look l n = some (a, ks) → ks.Nodup
  ok : ∀ n a ks, look l n = some (a, ks) → ∀ b ∈ ks, b ∈ keys wants ∧ ∃ k, pth (wOf wants) k n b
def Full (wants : List (List Nat × Place)) (l : RL) (n : List Nat) (t : Nat) : Prop := ∀ a ks, look l n = some (a, ks) → ∀ k, k ≤ t → ∀ b, pth (wOf wants) k n b → b ∈ ks
section
variable {K : PySem.W.Frag} {C : Ad} {vs : List V} {H : Hp} {Q : VK} {E : XK}
theorem i_dictP {H : Hp} {Q : VK} {a : Addr} {ps : List Addr} {kvs : List (Key × V)} (h1 : SqL K H a (ps.map V.ref)) (h2 : Paired (fun p kv => SqT K H p [kV kv.1, kv.2]) ps kvs) (q : ∀ p, H p = none → Q (.ref p) (upd H p (.dK (mergeK [] kvs)))) : qDictP K [.ref a] H Q := ⟨a, ps, kvs, rfl, h1, h2, q⟩
theorem rd_l_rings (h : sp_l_rings K C vs H Q E) : t_l_rings K C E (ends Q) (st 6 vs) H := by
  obtain ⟨d, wants, rfl, hd, hnd, hw6, hcl, q⟩ := h
  obtain ⟨kvw, hk, hkl, hRw⟩ := hd.len
  have hwo : ∀ n ws, look wants n = some ws → wOf wants n = ws := fun n ws e => by
    unfold wOf
    rw [e]
    rfl
  unfold t_l_rings
  walk_at "go"
  intro R0 hR0
  have hRd : R0 ≠ d := (dne hk hR0).symm
  walk_at "go"
  refine for_keysD (d := d) (l := wants) (R := placeR) (kvs := kvw) (fun _ _ q => ⟨_, rfl, q⟩) (lk hk hR0) (hRw.mono fun v b h => placeR_grows _ _ _ _ (same_new hR0) h)
    (fun i σ H' => ∃ (l : RL) (z2 z3 z4 z5 : Option V), σ = [some (.ref d), some (.ref R0), z2, z3, z4, z5] ∧ SameX d H H' ∧ RInv H H' R0 l ∧ keys l = (keys wants).take i ∧ ∀ n a ks, look l n = some (a, ks) → ks.Nodup ∧ ∀ b, b ∈ ks ↔ b ∈ wOf wants n) ?_ ?_ ?_
  · intro od
    refine ⟨[], none, none, none, none, rfl, (sx_of (same_new hR0)).trans sx_upd, ⟨⟨[], ?_, .nil⟩, by simp [keys], by simp, fun e he => nomatch he⟩, rfl, fun n a ks e => nomatch e⟩
    rw [upd_ne hRd]
    exact upd_same
  · rintro od i n ws σ H' hi ⟨l, z2, z3, z4, z5, rfl, sx, I, hkl2, hS⟩ hf
    have hmem := List.mem_of_getElem? hi
    have hlkw := look_of_mem hnd hmem
    have hil : i < wants.length := (List.getElem?_eq_some_iff.mp hi).1
    obtain ⟨hws10, hwsk⟩ := hcl n ws hlkw
    have hat : DictAt placeR H' d wants := ⟨kvw, .inr ⟨od, hf⟩, hRw.mono fun v b h => placeR_sx hk rfl sx h⟩
    have hki : (keys wants)[i]? = some n := by
      show (wants.map Prod.fst)[i]? = some n
      rw [List.getElem?_map, hi]
      rfl
    have hnl : n ∉ keys l := by
      rw [hkl2]
      exact not_in_take hnd hki
    walk_at "go"
    refine i_get hat hlkw fun v hv => ?_
    obtain ⟨p, rfl, hp⟩ := hv
    refine ⟨p, rfl, ⟨_, SqL.of hp⟩, fun D hD => ?_⟩
    refine lc_list (K := K) (a := p) (xs := ws.map vS) (fun k H2 => ∃ ts : List Addr, Same H' H2 ∧ H2 D = some (.lst (ts.map V.ref)) ∧ Paired (fun p kv => SqT K H2 p [kV kv.1, kv.2]) ts ((ws.take k).map fun w => (kS w, V.bl true))) ⟨[], same_new hD, upd_same, .nil⟩ (fun k H2 _ ⟨ts, s, _⟩ => SqL.of (s _ _ hp)) ?_ ?_
    · rintro k x H2 hx ⟨ts, s, hDt, hpr⟩
      rw [List.getElem?_map] at hx
      obtain ⟨w, hwk, rfl⟩ := Option.map_eq_some_iff.mp hx
      have hkk : k < ws.length := (List.getElem?_eq_some_iff.mp hwk).1
      have htl := paired_len hpr
      rw [List.length_map, List.length_take] at htl
      refine ⟨rfl, ?_⟩
      unfold tYes
      refine iteT ?_
      walk_at "go"
      intro t ht
      have hD2 := lk (u := .tup [vS w, .bl true]) hDt ht
      refine ⟨ts.map V.ref, hD2, to_lineL (by rw [List.length_map]; omega), ts ++ [t], Same.mut (Same.new s ht) hD, by rw [upd_same]; simp, ?_⟩
      rw [take_snoc hwk, List.map_append]
      refine paired_app (paired_mono (fun _ _ r => sqt_upd hD2 (Same.sqt (same_new ht) r)) hpr) (.cons (sqt_upd hD2 (SqT.of upd_same)) .nil)
    · rintro H2 ⟨ts, s, hDt, hpr⟩
      rw [List.length_map, List.take_length] at hpr
      walk_at "go"
      refine i_dictP (SqL.of hDt) hpr fun a ha => ?_
      have hmk := mergeK_bk ws []
      have hmk : mergeK [] (ws.map fun k => (kS k, V.bl true)) = bk (ws.foldl addK []) := hmk
      rw [hmk]
      have s2 := s.trans (same_new (o := .dK (bk (ws.foldl addK []))) ha)
      have haN : H a = none := by
        cases e : H a with
        | none => rfl
        | some o =>
          by_cases z : a = d
          · have := s _ _ hf
            rw [← z, ha] at this
            cases this
          · have := s _ _ (sx a o z e)
            rw [ha] at this
            cases this
      have hka : upd H2 a (.dK (bk (ws.foldl addK []))) a = some (.dK (bk (ws.foldl addK []))) := upd_same
      have I2 := I.grow s2
      have hf2 := s2 _ _ hf
      have sx2 := sx.trans (sx_of s2)
      have hnoA : ∀ e ∈ l, e.2.1 ≠ a := fun e he z => by
        have h1 := (I.grow s).dict
        obtain ⟨kvs, _, h3⟩ := h1
        obtain ⟨v, _, _, h4⟩ := h3.look (look_of_mem I.nd (show (e.1, e.2) ∈ l from he))
        rw [z, ha] at h4
        cases h4
      have haR : a ≠ R0 := fun z => by
        obtain ⟨kvs, h1, _⟩ := (I.grow s).dict
        rw [← z, ha] at h1
        cases h1
      generalize upd H2 a (.dK (bk (ws.foldl addK []))) = H3 at *
      obtain ⟨kvr, hkr, hkrl, hRr⟩ := I2.dict.len
      have hll : l.length ≤ 6 := by
        rw [← keys_len l, hkl2, List.length_take, keys_len]
        omega
      have hRr2 : Rows (rchR (upd H3 R0 (.dK (putK kvr (kS n) (.ref a))))) kvr l := by
        have := paired_mapMem (f := fun x => x) (R' := fun (kv : Key × V) (p : List Nat × (Addr × List (List Nat))) => kv.1 = kS p.1 ∧ rchR (upd H3 R0 (.dK (putK kvr (kS n) (.ref a)))) kv.2 p.2) hRr fun x y hy ⟨r1, r2, r3⟩ => ⟨r1, r2, by rw [upd_ne (I.fr y hy).2]; exact r3⟩
        rw [List.map_id'] at this
        exact this
      walk_at "go"
      refine i_put hkr (by omega) ?_
      refine ⟨⟨l ++ [(n, (a, ws.foldl addK []))], _, _, _, _, rfl, fun b o ne e => ?_, ⟨⟨_, upd_same, Rows.put hRr2 hnl ⟨rfl, by rw [upd_ne haR]; exact hka⟩⟩, keys_snoc_nodup I.nd hnl, ?_, fun e he => ?_⟩, ?_, fun m b ks e => ?_⟩, ?_⟩
      · rw [upd_ne (fun z => by rw [z, hR0] at e; cases e)]
        exact sx2 b o ne e
      · rw [List.map_append, List.nodup_append]
        refine ⟨I.ad, by simp, fun x hx y hy e => ?_⟩
        obtain ⟨e0, he0, rfl⟩ := List.mem_map.mp hx
        have hy : y = a := by simpa using hy
        exact hnoA e0 he0 (by rw [e, hy])
      · rcases List.mem_append.mp he with z | z
        · exact I.fr e z
        · rw [List.mem_singleton.mp z]
          exact ⟨haN, haR⟩
      · rw [keys_app, hkl2, take_snoc hki]
        rfl
      · rcases look_snoc e with z | ⟨rfl, z⟩
        · exact hS m b ks z
        · cases z
          refine ⟨foldl_addK_nodup (by simp), fun x => ?_⟩
          rw [mem_foldl_addK, hwo _ _ hlkw]
          simp
      · rw [upd_ne hRd.symm]
        exact hf2
  rintro od σ H1 ⟨l, z2, z3, z4, z5, rfl, sx, I, hkl2, hS⟩ hf
  have hkl3 : keys l = keys wants := by
    rw [hkl2, ← keys_len wants, List.take_length]
  have s1 : Same H (upd H1 d (.dK kvw)) := same_back hk sx
  have I1 : RInv H (upd H1 d (.dK kvw)) R0 l := I.other hk hRd
  generalize upd H1 d (.dK kvw) = H2 at *
  clear I sx hf
  have S1 : SInv wants l := ⟨fun n a ks e => (hS n a ks e).1, fun n a ks e b hb => by
    have hb2 := ((hS n a ks e).2 b).mp hb
    have hn : n ∈ keys wants := by
      rw [← hkl3]
      exact List.mem_map.mpr ⟨_, look_mem e, rfl⟩
    obtain ⟨ws, hws⟩ := look_some_of_key hn
    rw [hwo n ws hws] at hb2
    exact ⟨(hcl n ws hws).2 b hb2, 0, by rw [← hwo n ws hws] at hb2; exact hb2⟩⟩
  have F1 : ∀ n, Full wants l n 0 := fun n a ks e k hk b hb => by
    have : k = 0 := Nat.le_zero.mp hk
    subst this
    exact ((hS n a ks e).2 b).mpr hb
  walk_at "go"
  refine i_lenDk (s1 _ _ hk) ?_
  walk_at "go"
  refine for_range (fun t σ H' => ∃ (l : RL) (z2 z3 z4 z5 : Option V), σ = [some (.ref d), some (.ref R0), z2, z3, z4, z5] ∧ Same H H' ∧ RInv H H' R0 l ∧ keys l = keys wants ∧ SInv wants l ∧ ∀ n, Full wants l n t) ⟨l, z2, z3, z4, z5, rfl, s1, I1, hkl3, S1, F1⟩ ?_ ?_
  · rintro t σ H' ht ⟨l0, z2, z3, z4, z5, rfl, s, I0, hk0, S0, F0⟩
    refine for_keysD (d := d) (l := wants) (R := placeR) (kvs := kvw) (fun _ _ q => ⟨_, rfl, q⟩) (s _ _ hk) (hRw.mono fun v b h => placeR_grows _ _ _ _ s h)
      (fun i σ H' => ∃ (l : RL) (z2 z3 z5 : Option V), σ = [some (.ref d), some (.ref R0), z2, z3, some (.int (0 + (t : Int))), z5] ∧ SameX d H H' ∧ RInv H H' R0 l ∧ keys l = keys wants ∧ SInv wants l ∧ (∀ n, Full wants l n t) ∧ ∀ j n ws, j < i → wants[j]? = some (n, ws) → Full wants l n (t + 1)) ?_ ?_ ?_
    · intro od
      exact ⟨l0, z2, z3, z5, rfl, (sx_of s).trans sx_upd, I0.other hk hRd, hk0, S0, F0, fun j n ws hj => absurd hj (Nat.not_lt_zero _)⟩
    · rintro od i n ws0 σ H1 hi ⟨l1, z2, z3, z5, rfl, sx, I1, hk1, S1, F1, G1⟩ hf
      have hnk : n ∈ keys l1 := by
        rw [hk1]
        exact List.mem_map.mpr ⟨_, List.mem_of_getElem? hi, rfl⟩
      obtain ⟨⟨a, ks0⟩, he⟩ := look_some_of_key hnk
      obtain ⟨hka, haN⟩ := I1.get he
      have had : a ≠ d := fun z => by
        rw [z, hk] at haN
        cases haN
      walk_at "go"
      refine i_get I1.dict.at he fun v hv => ?_
      obtain ⟨rfl, _⟩ := hv
      walk_at "go"
      refine i_listD (bk_at hka) fun Ls hLs => ?_
      rw [keys_unit]
      have sL := same_new (o := .lst (ks0.map vS)) hLs
      have kL : upd H1 Ls (.lst (ks0.map vS)) Ls = some (.lst (ks0.map vS)) := upd_same
      have I2 := I1.grow sL
      have hf2 := sL _ _ hf
      have sx2 := sx.trans (sx_of sL)
      have hLa : Ls ≠ a := fun z => by
        rw [z, hka] at hLs
        cases hLs
      generalize upd H1 Ls (.lst (ks0.map vS)) = H2 at *
      refine for_texts (ns := ks0) (fun j σ H' => ∃ (l : RL) (ks : List (List Nat)) (z3 z5 : Option V), σ = [some (.ref d), some (.ref R0), some (vS n), z3, some (.int (0 + (t : Int))), z5] ∧ SameX d H H' ∧ H' d = some (.frz od (.dK kvw)) ∧ H' Ls = some (.lst (ks0.map vS)) ∧ RInv H H' R0 l ∧ keys l = keys wants ∧ SInv wants l ∧ (∀ m, m ≠ n → look l m = look l1 m) ∧ look l n = some (a, ks) ∧ (∀ b ∈ ks0, b ∈ ks) ∧ ∀ j' sh, j' < j → ks0[j']? = some sh → ∀ o ∈ wOf wants sh, o ∈ ks)
        ⟨l1, ks0, z3, z5, rfl, sx2, hf2, kL, I2, hk1, S1, fun m _ => rfl, he, fun b hb => hb, fun j' sh hj => absurd hj (Nat.not_lt_zero _)⟩ ?_ ?_ ?_
      · rintro j σ H' ⟨l, ks, z3, z5, rfl, _, _, kL, _⟩
        exact SqL.of kL
      · rintro j sh σ H' hj ⟨l, ks, z3, z5, rfl, sx3, hf3, kL3, I3, hk3, S3, hoth, he3, hsub, hdone⟩
        have hshm := List.mem_of_getElem? hj
        obtain ⟨hshk, kk, hpth⟩ := S1.ok n a ks0 he sh hshm
        obtain ⟨ws, hws⟩ := look_some_of_key hshk
        obtain ⟨_, hwsk⟩ := hcl sh ws hws
        have hww := hwo sh ws hws
        walk_at "go"
        refine i_get (R := placeR) (l := wants) ⟨kvw, .inr ⟨od, hf3⟩, hRw.mono fun v b h => placeR_sx hk rfl sx3 h⟩ hws fun v hv => ?_
        obtain ⟨z, rfl, hz⟩ := hv
        have hza : z ≠ a := fun y => by
          have := (I3.get he3).1
          rw [← y, hz] at this
          cases this
        refine for_texts (ns := ws) (fun q σ H' => ∃ (l : RL) (ks : List (List Nat)) (z5 : Option V), σ = [some (.ref d), some (.ref R0), some (vS n), some (vS sh), some (.int (0 + (t : Int))), z5] ∧ SameX d H H' ∧ H' d = some (.frz od (.dK kvw)) ∧ H' Ls = some (.lst (ks0.map vS)) ∧ H' z = some (.lst (ws.map vS)) ∧ RInv H H' R0 l ∧ keys l = keys wants ∧ SInv wants l ∧ (∀ m, m ≠ n → look l m = look l1 m) ∧ look l n = some (a, ks) ∧ (∀ b ∈ ks0, b ∈ ks) ∧ (∀ j' sh, j' < j → ks0[j']? = some sh → ∀ o ∈ wOf wants sh, o ∈ ks) ∧ ∀ o ∈ ws.take q, o ∈ ks)
          ⟨l, ks, z5, rfl, sx3, hf3, kL3, hz, I3, hk3, S3, hoth, he3, hsub, hdone, fun o ho => by simp at ho⟩ ?_ ?_ ?_
        · rintro qi σ H' ⟨l, ks, z5, rfl, _, _, _, hz, _⟩
          exact SqL.of hz
        · rintro qi o σ H' hq ⟨l, ks, z5, rfl, sx4, hf4, kL4, hz4, I4, hk4, S4, hoth4, he4, hsub4, hdone4, hq4⟩
          have hom := List.mem_of_getElem? hq
          obtain ⟨hka4, _⟩ := I4.get he4
          have hksl : ks.length ≤ 6 := by
            have := nodup_sub_len (S4.nd n a ks he4) fun x hx => (S4.ok n a ks he4 x hx).1
            rw [keys_len] at this
            omega
          walk_at "go"
          refine i_get I4.dict.at he4 fun v hv => ?_
          obtain ⟨rfl, _⟩ := hv
          walk_at "go"
          refine i_put hka4 (by unfold bk; rw [List.length_map]; omega) ?_
          rw [putK_bk]
          have he5 : look (setR l n (addK ks o)) n = some (a, addK ks o) := look_setR he4
          refine ⟨setR l n (addK ks o), addK ks o, _, rfl, fun b x ne e => ?_, ?_, ?_, ?_, I4.set he4, by rw [keys_setR]; exact hk4, ⟨fun m b ks' e => ?_, fun m b ks' e => ?_⟩, fun m hm => by rw [look_setR_ne hm]; exact hoth4 m hm, he5, fun b hb => mem_addK.mpr (.inl (hsub4 b hb)), fun j' sh' h1 h2 o' h3 => mem_addK.mpr (.inl (hdone4 j' sh' h1 h2 o' h3)), fun o' ho' => ?_⟩
          · rw [upd_ne (fun y => by rw [y, haN] at e; cases e)]
            exact sx4 b x ne e
          · rw [upd_ne had.symm]
            exact hf4
          · rw [upd_ne hLa]
            exact kL4
          · rw [upd_ne hza]
            exact hz4
          · by_cases hm : m = n
            · subst hm
              rw [he5] at e
              cases e
              exact addK_nodup (S4.nd m a ks he4)
            · rw [look_setR_ne hm] at e
              exact S4.nd m b ks' e
          · by_cases hm : m = n
            · subst hm
              rw [he5] at e
              cases e
              intro x hx
              rcases mem_addK.mp hx with y | rfl
              · exact S4.ok m a ks he4 x y
              · exact ⟨hwsk x hom, kk + 1, sh, hpth, by rw [hww]; exact hom⟩
            · rw [look_setR_ne hm] at e
              exact S4.ok m b ks' e
          · rcases (mem_take_snoc hq).mp ho' with y | rfl
            · exact mem_addK.mpr (.inl (hq4 o' y))
            · exact mem_addK.mpr (.inr rfl)
        · rintro σ H' ⟨l, ks, z5, rfl, sx4, hf4, kL4, hz4, I4, hk4, S4, hoth4, he4, hsub4, hdone4, hq4⟩
          rw [List.take_length] at hq4
          refine ⟨l, ks, _, z5, rfl, sx4, hf4, kL4, I4, hk4, S4, hoth4, he4, hsub4, fun j' sh' h1 h2 o ho => ?_⟩
          rcases Nat.lt_succ_iff_lt_or_eq.mp h1 with y | rfl
          · exact hdone4 j' sh' y h2 o ho
          · rw [hj] at h2
            cases h2
            rw [hww] at ho
            exact hq4 o ho
      · rintro σ H' ⟨l, ks, z3, z5, rfl, sx3, hf3, kL3, I3, hk3, S3, hoth, he3, hsub, hdone⟩
        have up : ∀ m T, Full wants l1 m T → Full wants l m T := fun m T hF => by
          by_cases hm : m = n
          · subst hm
            intro b ks' e k hkT x hx
            rw [he3] at e
            cases e
            exact hsub x (hF a ks0 he k hkT x hx)
          · intro b ks' e
            rw [hoth m hm] at e
            exact hF b ks' e
        have fulln : Full wants l n (t + 1) := fun b ks' e k hkT x hx => by
          rw [he3] at e
          cases e
          by_cases hkt : k ≤ t
          · exact hsub x (F1 n a ks0 he k hkt x hx)
          · have hk2 : k = t + 1 := by omega
            subst hk2
            obtain ⟨sh, h1, h2⟩ := hx
            have hm := F1 n a ks0 he t (Nat.le_refl _) sh h1
            obtain ⟨j', hj'⟩ := List.mem_iff_getElem?.mp hm
            exact hdone j' sh (List.getElem?_eq_some_iff.mp hj').1 hj' x h2
        refine ⟨⟨l, _, _, _, rfl, sx3, I3, hk3, S3, fun m => up m t (F1 m), fun j m ws hj hj2 => ?_⟩, hf3⟩
        rcases Nat.lt_succ_iff_lt_or_eq.mp hj with y | rfl
        · exact up m (t + 1) (G1 j m ws y hj2)
        · rw [hi] at hj2
          cases hj2
          exact fulln
    · rintro od σ H1 ⟨l1, z2, z3, z5, rfl, sx, I1, hk1, S1, F1, G1⟩ hf
      refine ⟨l1, _, _, _, _, rfl, same_back hk sx, I1.other hk hRd, hk1, S1, fun n => ?_⟩
      by_cases hn : n ∈ keys wants
      · obtain ⟨ws, hws⟩ := look_some_of_key hn
        obtain ⟨j, hj⟩ := List.mem_iff_getElem?.mp (look_mem hws)
        exact G1 j n ws (List.getElem?_eq_some_iff.mp hj).1 hj
      · intro a ks e
        exact absurd (by rw [← hk1]; exact List.mem_map.mpr ⟨_, look_mem e, rfl⟩) hn
  · rintro σ H' ⟨l, z2, z3, z4, z5, rfl, s, I, hk1, S1, F1⟩
    rw [Int.toNat_natCast, hkl] at F1
    have hset : ∀ n ∈ keys wants, ∃ a ks, look l n = some (a, ks) := fun n hn => by
      obtain ⟨⟨a, ks⟩, e⟩ := look_some_of_key (l := l) (by rw [hk1]; exact hn)
      exact ⟨a, ks, e⟩
    walk_at "go"
    refine i_lockE ⟨d, .dK kvw, s _ _ hk, trivial, fun od => ?_⟩
    have I2 : RInv H (upd H' d (.frz od (.dK kvw))) R0 l := I.other hk hRd
    have hf2 : upd H' d (.frz od (.dK kvw)) d = some (.frz od (.dK kvw)) := upd_same
    have sx2 : SameX d H (upd H' d (.frz od (.dK kvw))) := (sx_of s).trans sx_upd
    generalize upd H' d (.frz od (.dK kvw)) = H2 at *
    refine lc_keysF (H0 := H) (R := placeR) (l := wants) (fun n => .bl (decide (n ∈ ((look l n).map fun e => e.2).getD []))) (fun _ _ q => ⟨_, rfl, q⟩) hf2 hRw (by omega) (fun x => rfl) (fun n b H3 hm s3 Q' hq' => ?_) fun D hD => ?_
    · obtain ⟨a, ks, e⟩ := hset n (List.mem_map.mpr ⟨_, hm, rfl⟩)
      have I3 := I2.grow s3
      walk_at "go"
      refine i_get I3.dict.at e fun v hv => ?_
      obtain ⟨rfl, hka⟩ := hv
      refine i_has (bk_at hka) fun o ho => ?_
      rw [ho, keys_unit]
      rw [e] at hq'
      exact hq'
    have hf3 := lk (u := .lst (wants.map fun p => V.bl (decide (p.1 ∈ ((look l p.1).map fun e => e.2).getD [])))) hf2 hD
    refine ⟨hf3, ?_⟩
    have hDd : D ≠ d := fun z => by
      rw [z, hf2] at hD
      cases hD
    have s5 : Same H (upd (upd H2 D (.lst (wants.map fun p => V.bl (decide (p.1 ∈ ((look l p.1).map fun e => e.2).getD []))))) d (.dK kvw)) := same_back hk (sx2.trans (sx_of (same_new hD)))
    have kD : upd (upd H2 D (.lst (wants.map fun p => V.bl (decide (p.1 ∈ ((look l p.1).map fun e => e.2).getD []))))) d (.dK kvw) D = some (.lst ((wants.map fun p => decide (p.1 ∈ ((look l p.1).map fun e => e.2).getD [])).map V.bl)) := by
      rw [upd_ne hDd, upd_same, List.map_map]
      rfl
    generalize upd (upd H2 D (.lst (wants.map fun p => V.bl (decide (p.1 ∈ ((look l p.1).map fun e => e.2).getD []))))) d (.dK kvw) = H5 at *
    walk_at "go"
    refine i_any (SqL.of kD) ?_
    refine q _ H5 s5 (fun hb => ?_) fun hb n hn k hkw hp => ?_
    · obtain ⟨x, hx, hx2⟩ := List.any_eq_true.mp hb
      obtain ⟨p, hp, rfl⟩ := List.mem_map.mp hx
      have hpk : p.1 ∈ keys wants := List.mem_map.mpr ⟨p, hp, rfl⟩
      obtain ⟨a, ks, e⟩ := hset p.1 hpk
      have hx3 := of_decide_eq_true hx2
      rw [e] at hx3
      exact ⟨p.1, hpk, (S1.ok p.1 a ks e p.1 hx3).2⟩
    · obtain ⟨a, ks, e⟩ := hset n hn
      have hm := F1 n a ks e k hkw n hp
      obtain ⟨ws, hws⟩ := look_some_of_key hn
      have : (wants.map fun p => decide (p.1 ∈ ((look l p.1).map fun e => e.2).getD [])).any id = true := by
        refine List.any_eq_true.mpr ⟨_, List.mem_map.mpr ⟨(n, ws), look_mem hws, rfl⟩, ?_⟩
        show decide (n ∈ ((look l n).map fun e => e.2).getD []) = true
        rw [e]
        exact decide_eq_true hm
      rw [this] at hb
      cases hb
end




/-! the row of forty -/
def fortyR (b : Bool) : Tab := (List.range 40).map fun k => (sK k, if k = 0 then (if b = true then [.share (sK 39)] else [.root, .name [98]]) else [.name [97], .share (sK (k - 1))])
theorem forty_st : ∀ b : Bool, ∀ k < 40, stepsOf (if k = 0 then (if b = true then [64, 115, 51, 57] else [47, 98]) else [97, 47, 64, 115] ++ numS (k - 1)) = some (if k = 0 then (if b = true then [.share (sK 39)] else [.root, .name [98]]) else [.name [97], .share (sK (k - 1))]) := by decide +kernel
theorem paired_mapL {α β γ : Type} {R : β → γ → Prop} {f : α → β} {g : α → γ} : ∀ {l : List α}, (∀ x ∈ l, R (f x) (g x)) → Paired R (l.map f) (l.map g)
  | [], _ => .nil
  | a :: r, h => .cons (h a List.mem_cons_self) (paired_mapL fun x hx => h x (List.mem_cons_of_mem _ hx))
theorem forty_rows (b : Bool) : LinesRows (fortyL b) (fortyR b) := paired_mapL fun k hk => ⟨rfl, forty_st b k (List.mem_range.mp hk)⟩
theorem forty_keys (b : Bool) : keys (fortyR b) = (List.range 40).map sK := by
  unfold keys fortyR
  rw [List.map_map]
  rfl
theorem forty_nd (b : Bool) : (keys (fortyR b)).Nodup := by
  rw [forty_keys]
  decide +kernel
theorem forty_len : ∀ b : Bool, ∀ x ∈ fortyL b, x.2.length ≤ 10 := by decide +kernel
theorem forty_small (b : Bool) : SmallL (fortyL b) where
  num := by
    unfold fortyL
    rw [List.length_map, List.length_range]
    decide
  len := fun n l h => by
    have := forty_len b (n, l) h
    have : l.length ≤ 10 := this
    omega
  steps := fun n l ss h e => by
    have h1 := forty_len b (n, l) h
    have h1 : l.length ≤ 10 := h1
    have h2 := stepsOf_ln e
    omega
  nd := by
    rw [LinesRows.keys (forty_rows b)]
    exact forty_nd b
theorem forty_look (b : Bool) {k : Nat} (hk : k < 40) : look (fortyR b) (sK k) = some (if k = 0 then (if b = true then [.share (sK 39)] else [.root, .name [98]]) else [.name [97], .share (sK (k - 1))]) :=
  look_of_mem (forty_nd b) (List.mem_map.mpr ⟨k, List.mem_range.mpr hk, rfl⟩)
theorem forty_closed (b : Bool) : Closed (fortyR b) := by
  intro n ss h m hm
  obtain ⟨k, hk, e⟩ := List.mem_map.mp h
  have hk := List.mem_range.mp hk
  cases e
  rw [forty_keys]
  by_cases z : k = 0
  · rw [if_pos z] at hm
    cases b with
    | true =>
      have : m = sK 39 := by simpa [sharesOf] using hm
      rw [this]
      exact List.mem_map.mpr ⟨39, by decide, rfl⟩
    | false => simp [sharesOf] at hm
  · rw [if_neg z] at hm
    have : m = sK (k - 1) := by simpa [sharesOf] using hm
    rw [this]
    exact List.mem_map.mpr ⟨k - 1, List.mem_range.mpr (by omega), rfl⟩
theorem forty_all : ∀ k, k < 40 → PlaceOf (fortyR false) (sK k) [[98]]
  | 0, h => PlaceOf.new (pl := fun _ => none) (fun n p e => nomatch e) (forty_look false h) rfl
  | k + 1, h => by
    have ih := forty_all k (by omega)
    refine PlaceOf.new (pl := fun m => if m = sK k then some [[98]] else none) (fun n p e => ?_) (forty_look false h) ?_
    · split at e
      · rename_i hn
        cases e
        rw [hn]
        exact ih
      · cases e
    · rw [if_neg (by omega)]
      show (if sK k = sK k then some [[98]] else none).bind _ = _
      rw [if_pos rfl]
      rfl
theorem forty_pth : ∀ j, j < 40 → pth (wantsOf (fortyR true)) j (sK 0) (sK (39 - j))
  | 0, _ => by
    show sK 39 ∈ wantsOf (fortyR true) (sK 0)
    unfold wantsOf
    rw [forty_look true (by decide)]
    exact List.mem_cons_self
  | j + 1, h => by
    refine ⟨sK (39 - j), forty_pth j (by omega), ?_⟩
    unfold wantsOf
    rw [forty_look true (by omega), if_neg (by omega)]
    have e : 39 - j - 1 = 39 - (j + 1) := by omega
    rw [e]
    exact List.mem_cons_self
theorem forty_ring : ∀ p, ¬ PlaceOf (fortyR true) (sK 0) p := ring_none (k := 39) (forty_pth 39 (by decide))
/-! what the law draws -/
abbrev DrL := List (List Nat × List Nat × List Step × Nat)
def linesD (ds : DrL) : List (List Nat × List Nat) := ds.map fun x => (x.1, x.2.1)
def rowsD (ds : DrL) : Tab := ds.map fun x => (x.1, x.2.2.1)
def wantsD (ds : DrL) : List (List Nat × Place) := ds.map fun x => (x.1, sharesOf x.2.2.1)
theorem keys_linesD (ds : DrL) : keys (linesD ds) = keys ds := by
  unfold keys linesD
  rw [List.map_map]
  rfl
theorem keys_rowsD (ds : DrL) : keys (rowsD ds) = keys ds := by
  unfold keys rowsD
  rw [List.map_map]
  rfl
theorem keys_wantsD (ds : DrL) : keys (wantsD ds) = keys ds := by
  unfold keys wantsD
  rw [List.map_map]
  rfl
theorem look_mapD {β γ : Type} (f : β → γ) : ∀ (l : List (List Nat × β)) (n : List Nat), look (l.map fun x => (x.1, f x.2)) n = (look l n).map f
  | [], _ => rfl
  | x :: r, n => by
    by_cases z : x.1 = n
    · rw [look_pos z]
      exact look_pos (p := (x.1, f x.2)) z
    · rw [look_neg z, ← look_mapD f r n]
      exact look_neg (p := (x.1, f x.2)) z
theorem wants_eq (ds : DrL) : wOf (wantsD ds) = wantsOf (rowsD ds) := by
  funext n
  unfold wOf wantsOf
  have h1 := look_mapD (fun x : List Nat × List Step × Nat => sharesOf x.2.1) ds n
  have h2 := look_mapD (fun x : List Nat × List Step × Nat => x.2.1) ds n
  have h1 : look (wantsD ds) n = (look ds n).map _ := h1
  have h2 : look (rowsD ds) n = (look ds n).map _ := h2
  rw [h1, h2]
  cases look ds n <;> rfl
structure DrOk (ns : List (List Nat)) (ds : DrL) : Prop where
  ks : keys ds = ns
  nd : ns.Nodup
  nm : ∀ n ∈ ns, Nm n
  few : ns.length ≤ 6
  odd : ∀ x ∈ ds, PathOdd ns x.2.1 x.2.2.1 x.2.2.2
section
variable {ns : List (List Nat)} {ds : DrL}
theorem DrOk.len (h : DrOk ns ds) : ds.length ≤ 6 := by
  have := h.few
  rw [← h.ks, keys_len] at this
  exact this
theorem DrOk.small (h : DrOk ns ds) : SmallL (linesD ds) where
  num := by
    have := h.len
    unfold linesD
    rw [List.length_map]
    omega
  len := fun n l hm => by
    obtain ⟨x, hx, e⟩ := List.mem_map.mp hm
    cases e
    have := (h.odd x hx).len
    omega
  steps := fun n l ss hm e => by
    obtain ⟨x, hx, e2⟩ := List.mem_map.mp hm
    cases e2
    exact (h.odd x hx).few ss e
  nd := by
    rw [keys_linesD, h.ks]
    exact h.nd
theorem DrOk.rows (h : DrOk ns ds) (h0 : ∀ x ∈ ds, x.2.2.2 = 0) : LinesRows (linesD ds) (rowsD ds) := paired_mapL fun x hx => ⟨rfl, (h.odd x hx).made (h0 x hx)⟩
theorem DrOk.closed (h : DrOk ns ds) : Closed (rowsD ds) := by
  intro n ss hm m hms
  obtain ⟨x, hx, e⟩ := List.mem_map.mp hm
  cases e
  rw [keys_rowsD, h.ks]
  exact (h.odd x hx).ok _ (sharesOf_mem.mp hms)
theorem DrOk.allPl (h : DrOk ns ds) (ha : ∀ n ∈ keys (rowsD ds), ∃ p, PlaceOf (rowsD ds) n p) : AllPl (rowsD ds) where
  small := ⟨by
    have := h.len
    unfold rowsD
    rw [List.length_map]
    omega, fun n ss hm => by
    obtain ⟨x, hx, e⟩ := List.mem_map.mp hm
    cases e
    have := (h.odd x hx).num
    omega, by rw [keys_rowsD, h.ks]; exact h.nd⟩
  closed := h.closed
  all := ha
  len := by
    have := h.len
    unfold rowsD
    rw [List.length_map]
    omega
/-- a line whose escape is none -/
theorem DrOk.bad (h : DrOk ns ds) {x} (hx : x ∈ ds) (h2 : x.2.2.2 = 2) : ∃ n l, (n, l) ∈ linesD ds ∧ stepsOf l = none := ⟨x.1, x.2.1, List.mem_map.mpr ⟨x, hx, rfl⟩, (h.odd x hx).esc h2⟩
theorem no_rows {lines : List (List Nat × List Nat)} {rows : Tab} (h : LinesRows lines rows) (h2 : ∃ n l, (n, l) ∈ lines ∧ stepsOf l = none) : False := by
  obtain ⟨n, l, hm, e⟩ := h2
  obtain ⟨i, hi⟩ := List.mem_iff_getElem?.mp hm
  obtain ⟨y, _, _, h3⟩ := paired_get h hi
  rw [e] at h3
  cases h3
theorem DrOk.fine (h : DrOk ns ds) (h2 : ∀ x ∈ ds, x.2.2.2 ≠ 2) : ¬ ∃ n l, (n, l) ∈ linesD ds ∧ stepsOf l = none := by
  rintro ⟨n, l, hm, e⟩
  obtain ⟨x, hx, e2⟩ := List.mem_map.mp hm
  cases e2
  have ho := h.odd x hx
  have hle := ho.le
  have h3 := h2 x hx
  by_cases z : x.2.2.2 = 0
  · rw [ho.made z] at e
    cases e
  · obtain ⟨ss, h4, _⟩ := ho.share (by omega)
    rw [h4] at e
    cases e
theorem DrOk.notClosed (h : DrOk ns ds) {x} (hx : x ∈ ds) (h1 : x.2.2.2 = 1) {rows : Tab} (hr : LinesRows (linesD ds) rows) : ¬ Closed rows := by
  intro hc
  obtain ⟨ss, h2, m, h3, h4⟩ := (h.odd x hx).share h1
  have hm : (x.1, x.2.1) ∈ linesD ds := List.mem_map.mpr ⟨x, hx, rfl⟩
  obtain ⟨i, hi⟩ := List.mem_iff_getElem?.mp hm
  obtain ⟨y, hy, h5, h6⟩ := paired_get hr hi
  have h6 : stepsOf x.2.1 = some y.2 := h6
  rw [h2] at h6
  cases h6
  have := hc y.1 y.2 (List.mem_of_getElem? hy) m h3
  rw [← LinesRows.keys hr, keys_linesD, h.ks] at this
  exact h4 this
theorem DrOk.wants (h : DrOk ns ds) : ∀ n ws, look (wantsD ds) n = some ws → ws.length ≤ 10 ∧ ∀ m ∈ ws, m ∈ keys (wantsD ds) := by
  intro n ws e
  obtain ⟨x, hx, e2⟩ := List.mem_map.mp (look_mem e)
  cases e2
  have ho := h.odd x hx
  refine ⟨?_, fun m hm => ?_⟩
  · have h1 : ∀ l : List Step, (sharesOf l).length ≤ l.length := by
      intro l
      induction l with
      | nil => simp [sharesOf]
      | cons s r ih => cases s <;> simp [sharesOf] <;> omega
    have := h1 x.2.2.1
    have := ho.num
    omega
  · rw [keys_wantsD, h.ks]
    exact ho.ok _ (sharesOf_mem.mp hm)
end
theorem odd_mem {ds : DrL} {o : Nat} (h : ∀ x ∈ ds, x.2.2.2 ≤ 2) (ho : o = 1 ∨ o = 2) : oddT o ∈ (ds.map fun x => oddT x.2.2.2) ↔ ∃ x ∈ ds, x.2.2.2 = o := by
  constructor
  · intro hm
    obtain ⟨x, hx, e⟩ := List.mem_map.mp hm
    refine ⟨x, hx, ?_⟩
    have hle := h x hx
    generalize x.2.2.2 = k at *
    rcases ho with rfl | rfl
    · match k, hle with
      | 0, _ => simp [oddT] at e
      | 1, _ => rfl
      | 2, _ => simp [oddT] at e
    · match k, hle with
      | 0, _ => simp [oddT] at e
      | 1, _ => simp [oddT] at e
      | 2, _ => rfl
  · rintro ⟨x, hx, e⟩
    exact List.mem_map.mpr ⟨x, hx, by rw [e]⟩




def placeO (O : Addr) (H : Hp) (v : V) (pl : List (List Nat)) : Prop := ∃ p, v = .ref p ∧ p ≠ O ∧ H p = some (.lst (pl.map vS))
def stepsO (K : PySem.W.Frag) (O : Addr) (H : Hp) (v : V) (ss : List Step) : Prop := ∃ p, v = .ref p ∧ p ≠ O ∧ Steps K H p ss
theorem placeO_grows {O : Addr} : Grows (placeO O) := fun _ _ _ _ s ⟨p, e, n, h⟩ => ⟨p, e, n, s _ _ h⟩
theorem stepsO_grows {K : PySem.W.Frag} {O : Addr} : Grows (stepsO K O) := fun _ _ _ _ s ⟨p, e, n, h⟩ => ⟨p, e, n, h.same s⟩
theorem placeO_sx {O x : Addr} {H H' : Hp} {u : HO} {w : V} {pl : Place} (hx : H x = some u) (hu : seqO u = false) (s : SameX x H H') (h : placeO O H w pl) : placeO O H' w pl := by
  obtain ⟨p, rfl, n, h⟩ := h
  exact ⟨p, rfl, n, sx_get hx hu s h rfl⟩
theorem stepsO_sx {K : PySem.W.Frag} {O x : Addr} {H H' : Hp} {u : HO} {w : V} {ss : List Step} (hx : H x = some u) (hu : seqO u = false) (s : SameX x H H') (h : stepsO K O H w ss) : stepsO K O H' w ss := by
  obtain ⟨p, rfl, n, h⟩ := h
  exact ⟨p, rfl, n, h.sx hx hu s⟩
section
variable {K : PySem.W.Frag} {C : Ad} {vs : List V} {H : Hp} {Q : VK} {E : XK}
theorem rd_law_k06 (h : sp_law K C vs H Q E) : t_law_k06 K C E (ends Q) (st 12 vs) H := by
  obtain ⟨a, ns0, rfl, hS, hlen, q⟩ := h
  unfold t_law_k06
  walk_at "go"
  generalize hfi : cellAt ns0 (Int.toNat 0) = first
  refine i_ifD (fun h1 => ?_) (fun h1 => ?_)
  · walk_at "go"
    refine i_l_row_of_forty_k06 fun p H1 s1 hd => ?_
    walk_at "go"
    have fin : ∀ (H' : Hp) (k : Nat), first / 9 % 2 = (k : Int) → k < 2 → ∀ w : List Nat, ([madeT, ringT] : List (List Nat))[k]? = some w → tOp (qIxL K) (tLst (tCons (tC (vS [109, 97, 100, 101])) (tCons (tC (vS [114, 105, 110, 103, 32, 118, 97, 108, 117, 101])) (tNil)))) (tOp qMod (tOp qDiv (tVar 1) (tC (.int 9))) (tC (.int 2))) [some (.ref a), some (.int first), none, none, none, none, none, none, none, none, none, none] H' fun y H2 => qEqS (vS w) y H2 Q := by
      intro H' k hk hk2 w hw
      walk_at "go"
      intro T hT
      walk_at "go"
      rw [hk]
      refine i_ixL (i := k) (v := vS w) rfl (SqL.of upd_same) (by
        show (([madeT, ringT] : List (List Nat)).map vS)[k]? = _
        rw [List.getElem?_map, hw]
        rfl) ?_
      refine i_eqS ?_
      rw [decide_eq_true rfl]
      exact q _
    by_cases hb : first / 9 % 2 = 1
    · rw [decide_eq_true hb] at hd
      refine i_l_said hd (forty_small true) ⟨fun h2 => ?_, fun rows r1 r2 => ?_, fun rows r1 r2 r3 H' => ?_, fun rows r1 r2 r3 => ?_⟩
      · exact (no_rows (forty_rows true) h2).elim
      · exact absurd (by rw [LinesRows.uniq r1 (forty_rows true)]; exact forty_closed true) r2
      · exact fin H' 1 hb (by decide) ringT rfl
      · have e := LinesRows.uniq r1 (forty_rows true)
        subst e
        obtain ⟨p, hp⟩ := r3 (sK 0) (by rw [forty_keys]; exact List.mem_map.mpr ⟨0, by decide, rfl⟩)
        exact absurd hp (forty_ring p)
    · rw [decide_eq_false hb] at hd
      refine i_l_said hd (forty_small false) ⟨fun h2 => ?_, fun rows r1 r2 => ?_, fun rows r1 r2 r3 => ?_, fun rows r1 r2 r3 H' _ => ?_⟩
      · exact (no_rows (forty_rows false) h2).elim
      · exact absurd (by rw [LinesRows.uniq r1 (forty_rows false)]; exact forty_closed false) r2
      · have e := LinesRows.uniq r1 (forty_rows false)
        subst e
        obtain ⟨n, hn, hno⟩ := r3
        rw [forty_keys] at hn
        obtain ⟨k, hk, rfl⟩ := List.mem_map.mp hn
        exact absurd (forty_all k (List.mem_range.mp hk)) (hno _)
      · exact fin H' 0 (by omega) (by decide) madeT rfl
  walk_at "go"
  intro N hN
  walk_at "go"
  refine for_range (fun i σ H' => ∃ (ns : List (List Nat)) (z3 z4 : Option V), σ = [some (.ref a), some (.int first), some (.ref N), z3, z4, none, none, none, none, none, none, none] ∧ Same H H' ∧ H' N = some (.lst (ns.map vS)) ∧ ns.length ≤ i ∧ (0 < i → 0 < ns.length) ∧ ns.Nodup ∧ ∀ n ∈ ns, Nm n) ⟨[], none, none, rfl, same_new hN, upd_same, Nat.le_refl _, (fun h => absurd h (Nat.lt_irrefl _)), by simp, fun n hn => nomatch hn⟩ ?_ ?_
  · rintro i σ H' hi ⟨ns, z3, z4, rfl, s, hN', hnl, hn0, hnd, hnm⟩
    have hS' := s.seq hS
    walk_at "go"
    refine i_l_name_by fun n hn => ?_
    walk_at "go"
    refine i_niT (SqL.of hN') ?_
    walk_at "go"
    refine i_ifN (fun h2 => ?_) (fun h2 => ?_)
    · walk_at "go"
      refine i_tyL hN' ?_
      walk_at "go"
      refine i_append hN' (by rw [List.length_map]; omega) ?_
      refine ⟨ns ++ [n], _, _, rfl, Same.mut s hN, by rw [upd_same]; simp, by rw [List.length_append, List.length_singleton]; omega, (fun _ => by rw [List.length_append, List.length_singleton]; omega), ?_, fun m hm => ?_⟩
      · rw [List.nodup_append]
        refine ⟨hnd, by simp, fun x hx y hy e => h2 ?_⟩
        rw [← List.mem_singleton.mp hy, ← e]
        exact hx
      · rcases List.mem_append.mp hm with z | z
        · exact hnm m z
        · rw [List.mem_singleton.mp z]
          exact hn
    · walk_at "go"
      exact ⟨ns, _, _, rfl, s, hN', by omega, (fun _ => List.length_pos_of_mem h2), hnd, hnm⟩
  rintro σ H1 ⟨ns, z3, z4, rfl, s1, hN1, hnl, hn0, hnd, hnm⟩
  have hn0 : 0 < ns.length := hn0 (by omega)
  have hn6 : ns.length ≤ 6 := by omega
  have hS1 := s1.seq hS
  clear hnl
  walk_at "go"
  intro T hT
  walk_at "go"
  intro W hW
  obtain ⟨hTW, hW1⟩ := new_ne hW
  walk_at "go"
  intro R hR
  obtain ⟨hWR, hR2⟩ := new_ne hR
  obtain ⟨hTR, hR1⟩ := new_ne hR2
  walk_at "go"
  intro O hO
  obtain ⟨hRO, hO3⟩ := new_ne hO
  obtain ⟨hWO, hO2⟩ := new_ne hO3
  obtain ⟨hTO, hO1⟩ := new_ne hO2
  have s2 : Same H1 (upd (upd (upd (upd H1 T (.dK [])) W (.dK [])) R (.dK [])) O (.lst [])) := (((same_new hT).trans (same_new hW)).trans (same_new hR)).trans (same_new hO)
  have kT := lk (u := .lst []) (lk (u := .dK []) (lk (u := .dK []) (upd_same (H := H1) (a := T) (o := .dK [])) hW) hR) hO
  have kW := lk (u := .lst []) (lk (u := .dK []) (upd_same (H := upd H1 T (.dK [])) (a := W) (o := .dK [])) hR) hO
  have kR := lk (u := .lst []) (upd_same (H := upd (upd H1 T (.dK [])) W (.dK [])) (a := R) (o := .dK [])) hO
  have kO := upd_same (H := upd (upd (upd H1 T (.dK [])) W (.dK [])) R (.dK [])) (a := O) (o := .lst [])
  generalize upd (upd (upd (upd H1 T (.dK [])) W (.dK [])) R (.dK [])) O (.lst []) = H2 at *
  have hN2S := SqL.of (K := K) (s2 _ _ hN1)
  walk_at "go"
  refine for_range (fun i σ H' => ∃ (ds : DrL) (z3 z9 : Option V), σ = [some (.ref a), some (.int first), some (.ref N), z3, z4, some (.ref T), some (.ref W), some (.ref R), some (.ref O), z9, none, none] ∧ Same H1 H' ∧ DictM txtR H' T (linesD ds) ∧ DictM (placeO O) H' W (wantsD ds) ∧ DictM (stepsO K O) H' R (rowsD ds) ∧ H' O = some (.lst ((ds.map fun x => oddT x.2.2.2).map vS)) ∧ keys ds = ns.take i ∧ ∀ x ∈ ds, PathOdd ns x.2.1 x.2.2.1 x.2.2.2)
    ⟨[], z3, none, rfl, s2, ⟨[], kT, .nil⟩, ⟨[], kW, .nil⟩, ⟨[], kR, .nil⟩, kO, rfl, fun x hx => nomatch hx⟩ ?_ ?_
  · rintro i σ H' hi ⟨ds, z3, z9, rfl, s, hdT, hdW, hdR, hO', hks, hod⟩
    rw [Int.toNat_natCast, List.length_map] at hi
    have hS' := s.seq hS1
    have hge : ns[i]? = some ns[i] := List.getElem?_eq_getElem hi
    generalize ns[i] = n at hge
    have hdl : ds.length = i := by
      rw [← keys_len ds, hks, List.length_take]
      omega
    have hnot : n ∉ keys ds := by
      rw [hks]
      exact not_in_take hnd hge
    walk_at "go"
    refine i_l_path_of (SqL.of (s _ _ hN1)) hnm hn0 hn6 fun t p H3 l ms o s3 ht hps hpn hpo => ?_
    have hpO : p ≠ O := fun z => by
      rw [z, hO'] at hpn
      cases hpn
    have s13 := s.trans s3
    have hdT3 := hdT.same txtR_grows s3
    have hdW3 := hdW.same placeO_grows s3
    have hdR3 := hdR.same stepsO_grows s3
    have hO3' := s3 _ _ hO'
    have hN3 := s13 _ _ hN1
    obtain ⟨kvt, hkt, hktl, hRt⟩ := hdT3.len
    have hln : (linesD ds).length = i := by
      unfold linesD
      rw [List.length_map, hdl]
    walk_at "go"
    refine i_ixL (i := i) (v := vS n) (by omega) (SqL.of hN3) (by rw [List.getElem?_map, hge]; rfl) ?_
    refine i_put hkt (by omega) ?_
    have hdT4 : DictM txtR (upd H3 T (.dK (putK kvt (kS n) (vS l)))) T (linesD (ds ++ [(n, l, ms, o)])) := by
      have e : linesD (ds ++ [(n, l, ms, o)]) = linesD ds ++ [(n, l)] := by simp [linesD]
      rw [e]
      exact ⟨_, upd_same, Rows.put hRt (by rw [keys_linesD]; exact hnot) rfl⟩
    have hdW4 : DictM (placeO O) (upd H3 T (.dK (putK kvt (kS n) (vS l)))) W (wantsD ds) := hdW3.mono (fun kvs h => by rw [upd_ne hTW.symm]; exact h) fun v b h => placeO_sx hkt rfl sx_upd h
    have hdR4 : DictM (stepsO K O) (upd H3 T (.dK (putK kvt (kS n) (vS l)))) R (rowsD ds) := hdR3.mono (fun kvs h => by rw [upd_ne hTR.symm]; exact h) fun v b h => stepsO_sx hkt rfl sx_upd h
    have hO4 : upd H3 T (.dK (putK kvt (kS n) (vS l))) O = some (.lst ((ds.map fun x => oddT x.2.2.2).map vS)) := by
      rw [upd_ne hTO.symm]
      exact hO3'
    have ht4 : SqT K (upd H3 T (.dK (putK kvt (kS n) (vS l)))) t [vS l, .ref p, vS (oddT o)] := sqt_sx hkt rfl sx_upd ht
    have hps4 : Steps K (upd H3 T (.dK (putK kvt (kS n) (vS l)))) p ms := hps.sx hkt rfl sx_upd
    have hN4 : upd H3 T (.dK (putK kvt (kS n) (vS l))) N = some (.lst (ns.map vS)) := sx_get hkt rfl sx_upd hN3 rfl
    have s4 : Same H1 (upd H3 T (.dK (putK kvt (kS n) (vS l)))) := Same.mut s13 hT
    generalize upd H3 T (.dK (putK kvt (kS n) (vS l))) = H4 at *
    clear hdT3 hdW3 hdR3 hO3' hN3 hkt hRt
    obtain ⟨kvr, hkr, hkrl, hRr⟩ := hdR4.len
    have hrn : (rowsD ds).length = i := by
      unfold rowsD
      rw [List.length_map, hdl]
    walk_at "go"
    refine i_ixL (i := i) (v := vS n) (by omega) (SqL.of hN4) (by rw [List.getElem?_map, hge]; rfl) ?_
    refine i_put hkr (by omega) ?_
    have hdR5 : DictM (stepsO K O) (upd H4 R (.dK (putK kvr (kS n) (.ref p)))) R (rowsD (ds ++ [(n, l, ms, o)])) := by
      have e : rowsD (ds ++ [(n, l, ms, o)]) = rowsD ds ++ [(n, ms)] := by simp [rowsD]
      rw [e]
      exact ⟨_, upd_same, Rows.put (hRr.mono fun v b h => stepsO_sx hkr rfl sx_upd h) (by rw [keys_rowsD]; exact hnot) ⟨p, rfl, hpO, hps4.sx hkr rfl sx_upd⟩⟩
    have hdT5 : DictM txtR (upd H4 R (.dK (putK kvr (kS n) (.ref p)))) T (linesD (ds ++ [(n, l, ms, o)])) := hdT4.mono (fun kvs h => by rw [upd_ne hTR]; exact h) fun v b h => h
    have hdW5 : DictM (placeO O) (upd H4 R (.dK (putK kvr (kS n) (.ref p)))) W (wantsD ds) := hdW4.mono (fun kvs h => by rw [upd_ne hWR]; exact h) fun v b h => placeO_sx hkr rfl sx_upd h
    have hO5 : upd H4 R (.dK (putK kvr (kS n) (.ref p))) O = some (.lst ((ds.map fun x => oddT x.2.2.2).map vS)) := by
      rw [upd_ne hRO.symm]
      exact hO4
    have ht5 : SqT K (upd H4 R (.dK (putK kvr (kS n) (.ref p)))) t [vS l, .ref p, vS (oddT o)] := sqt_sx hkr rfl sx_upd ht4
    have hps5 : Steps K (upd H4 R (.dK (putK kvr (kS n) (.ref p)))) p ms := hps4.sx hkr rfl sx_upd
    have hN5 : upd H4 R (.dK (putK kvr (kS n) (.ref p))) N = some (.lst (ns.map vS)) := sx_get hkr rfl sx_upd hN4 rfl
    have s5 : Same H1 (upd H4 R (.dK (putK kvr (kS n) (.ref p)))) := Same.mut s4 hR1
    generalize upd H4 R (.dK (putK kvr (kS n) (.ref p))) = H5 at *
    clear hdT4 hdW4 hdR4 hO4 hN4 hkr hRr ht4 hps4
    walk_at "go"
    obtain ⟨us, hus, hat⟩ := hps5
    have hul := paired_len hat
    have hmn := hpo.num
    refine ⟨p, rfl, ⟨us, SqL.of hus⟩, fun D hD => ?_⟩
    refine lc_list (K := K) (a := p) (xs := us) (fun k H' => H' = upd H5 D (.lst ((sharesOf (ms.take k)).map vS))) rfl (fun k H' _ e => by rw [e]; exact SqL.of (lk hus hD)) ?_ ?_
    · rintro k x H' hx rfl
      obtain ⟨sp, hsp, rr⟩ := paired_get hat hx
      obtain ⟨b, rfl, hb⟩ := rr.same (same_new (o := .lst ((sharesOf (ms.take k)).map vS)) hD)
      have hkl : k < ms.length := (List.getElem?_eq_some_iff.mp hsp).1
      have hsl : (sharesOf (ms.take k)).length ≤ 6 := by
        have h1 : ∀ l : List Step, (sharesOf l).length ≤ l.length := by
          intro l
          induction l with
          | nil => simp [sharesOf]
          | cons s r ih => cases s <;> simp [sharesOf] <;> omega
        have := h1 (ms.take k)
        rw [List.length_take] at this
        omega
      refine ⟨rfl, ?_⟩
      rw [take_snoc hsp, sharesOf_app]
      cases sp with
      | root =>
        have hb : SqT K _ b [vS [114, 111, 111, 116]] := hb
        walk_at "go"
        simp [sharesOf]
      | up =>
        have hb : SqT K _ b [vS [117, 112]] := hb
        walk_at "go"
        simp [sharesOf]
      | name m =>
        have hb : SqT K _ b [vS [110, 97, 109, 101], vS m] := hb
        walk_at "go"
        simp [sharesOf]
      | share m =>
        have hb : SqT K _ b [vS [115, 104, 97, 114, 101], vS m] := hb
        walk_at "go"
        refine ⟨_, upd_same, to_lineL (by rw [List.length_map]; omega), ?_⟩
        rw [upd_upd]
        simp [sharesOf]
    rintro H' rfl
    rw [hul, List.take_length]
    have sD := same_new (o := .lst ((sharesOf ms).map vS)) hD
    have hDO : D ≠ O := fun z => by
      rw [z, hO5] at hD
      cases hD
    have hdT6 := hdT5.same txtR_grows sD
    have hdW6 := hdW5.same placeO_grows sD
    have hdR6 := hdR5.same stepsO_grows sD
    have hO6 := sD _ _ hO5
    have ht6 := Same.sqt sD ht5
    have hN6 := sD _ _ hN5
    have hDk : upd H5 D (.lst ((sharesOf ms).map vS)) D = some (.lst ((sharesOf ms).map vS)) := upd_same
    have s6 := s5.trans sD
    generalize upd H5 D (.lst ((sharesOf ms).map vS)) = H6 at *
    clear hdT5 hdW5 hdR5 hO5 ht5 hN5 hus hat
    obtain ⟨kvw, hkw, hkwl, hRw⟩ := hdW6.len
    have hwn : (wantsD ds).length = i := by
      unfold wantsD
      rw [List.length_map, hdl]
    walk_at "go"
    refine i_ixL (i := i) (v := vS n) (by omega) (SqL.of hN6) (by rw [List.getElem?_map, hge]; rfl) ?_
    refine i_put hkw (by omega) ?_
    have hdW7 : DictM (placeO O) (upd H6 W (.dK (putK kvw (kS n) (.ref D)))) W (wantsD (ds ++ [(n, l, ms, o)])) := by
      have e : wantsD (ds ++ [(n, l, ms, o)]) = wantsD ds ++ [(n, sharesOf ms)] := by simp [wantsD]
      rw [e]
      exact ⟨_, upd_same, Rows.put (hRw.mono fun v b h => placeO_sx hkw rfl sx_upd h) (by rw [keys_wantsD]; exact hnot) ⟨D, rfl, hDO, sx_get hkw rfl sx_upd hDk rfl⟩⟩
    have hdT7 : DictM txtR (upd H6 W (.dK (putK kvw (kS n) (.ref D)))) T (linesD (ds ++ [(n, l, ms, o)])) := hdT6.mono (fun kvs h => by rw [upd_ne hTW]; exact h) fun v b h => h
    have hdR7 : DictM (stepsO K O) (upd H6 W (.dK (putK kvw (kS n) (.ref D)))) R (rowsD (ds ++ [(n, l, ms, o)])) := hdR6.mono (fun kvs h => by rw [upd_ne hWR.symm]; exact h) fun v b h => stepsO_sx hkw rfl sx_upd h
    have hO7 : upd H6 W (.dK (putK kvw (kS n) (.ref D))) O = some (.lst ((ds.map fun x => oddT x.2.2.2).map vS)) := by
      rw [upd_ne hWO.symm]
      exact hO6
    have ht7 : SqT K (upd H6 W (.dK (putK kvw (kS n) (.ref D)))) t [vS l, .ref p, vS (oddT o)] := sqt_sx hkw rfl sx_upd ht6
    have s7 : Same H1 (upd H6 W (.dK (putK kvw (kS n) (.ref D)))) := Same.mut s6 hW1
    generalize upd H6 W (.dK (putK kvw (kS n) (.ref D))) = H7 at *
    clear hdT6 hdW6 hdR6 hO6 ht6 hN6 hkw hRw
    walk_at "go"
    refine i_tyL hO7 ?_
    walk_at "go"
    refine i_ixT (i := 2) rfl ht7 rfl ?_
    walk_at "go"
    refine i_append hO7 (by rw [List.length_map, List.length_map]; omega) ?_
    have kX : ∀ (x : Addr) (kvs : List (Key × V)), H7 x = some (.dK kvs) → upd H7 O (.lst ((ds.map fun x => oddT x.2.2.2).map vS ++ [vS (oddT o)])) x = some (.dK kvs) := fun x kvs h => by
      rw [upd_ne (fun z => by rw [z, hO7] at h; cases h)]
      exact h
    refine ⟨ds ++ [(n, l, ms, o)], _, _, rfl, Same.mut s7 hO1, hdT7.mono (kX T) fun v b h => h, hdW7.mono (kX W) fun v b ⟨z, e, ne, h⟩ => ⟨z, e, ne, by rw [upd_ne ne]; exact h⟩, hdR7.mono (kX R) fun v b ⟨z, e, ne, h⟩ => ⟨z, e, ne, h.other hO7 ne⟩, by rw [upd_same]; simp, ?_, fun x hx => ?_⟩
    · rw [keys_app, hks, take_snoc hge]
      rfl
    · rcases List.mem_append.mp hx with z | z
      · exact hod x z
      · rw [List.mem_singleton.mp z]
        exact hpo
  rintro σ H3 ⟨ds, z3, z9, rfl, s3, hdT, hdWo, hdRo, hO3, hks, hod⟩
  rw [Int.toNat_natCast, List.length_map, List.take_length] at hks
  have D : DrOk ns ds := ⟨hks, hnd, hnm, hn6, hod⟩
  have hdW : DictM placeR H3 W (wantsD ds) := hdWo.mono (fun _ h => h) fun v b ⟨z, e, _, h⟩ => ⟨z, e, h⟩
  have hdR : DictM (stepsR K) H3 R (rowsD ds) := hdRo.mono (fun _ h => h) fun v b ⟨z, e, _, h⟩ => ⟨z, e, h⟩
  clear hdWo hdRo
  have hle : ∀ x ∈ ds, x.2.2.2 ≤ 2 := fun x hx => (hod x hx).le
  have hO3' : H3 O = some (.lst ((ds.map fun x => oddT x.2.2.2).map vS)) := hO3
  have hOS := SqL.of (K := K) hO3'
  walk_at "go"
  refine i_cut (fun σ' H' => ∃ due : List Nat, σ' = [some (.ref a), some (.int first), some (.ref N), z3, z4, some (.ref T), some (.ref W), some (.ref R), some (.ref O), z9, some (vS due), none] ∧ Same H3 H' ∧
    ((due = escT ∧ ∃ x ∈ ds, x.2.2.2 = 2) ∨ (due = shareT ∧ (∀ x ∈ ds, x.2.2.2 ≠ 2) ∧ ∃ x ∈ ds, x.2.2.2 = 1) ∨ (due = ringT ∧ (∀ x ∈ ds, x.2.2.2 = 0) ∧ ∃ n ∈ keys (rowsD ds), ∀ p, ¬ PlaceOf (rowsD ds) n p) ∨ (due = madeT ∧ (∀ x ∈ ds, x.2.2.2 = 0) ∧ ∀ n ∈ keys (rowsD ds), ∃ p, PlaceOf (rowsD ds) n p))) ?_ ?_
  · walk_at "go"
    refine i_inT (n := oddT 2) (ns := ds.map fun x => oddT x.2.2.2) hOS ?_
    walk_at "go"
    refine i_ifD (fun h2 => ?_) (fun h2 => ?_)
    · walk_at "go"
      exact ⟨_, rfl, Same.refl _, .inl ⟨rfl, (odd_mem hle (.inr rfl)).mp h2⟩⟩
    have hno2 : ∀ x ∈ ds, x.2.2.2 ≠ 2 := fun x hx z => h2 ((odd_mem hle (.inr rfl)).mpr ⟨x, hx, z⟩)
    walk_at "go"
    refine i_inT (n := oddT 1) (ns := ds.map fun x => oddT x.2.2.2) hOS ?_
    walk_at "go"
    refine i_ifD (fun h3 => ?_) (fun h3 => ?_)
    · walk_at "go"
      exact ⟨_, rfl, Same.refl _, .inr (.inl ⟨rfl, hno2, (odd_mem hle (.inl rfl)).mp h3⟩)⟩
    have hall0 : ∀ x ∈ ds, x.2.2.2 = 0 := fun x hx => by
      have h4 := hno2 x hx
      have h5 : x.2.2.2 ≠ 1 := fun z => h3 ((odd_mem hle (.inl rfl)).mpr ⟨x, hx, z⟩)
      have := hle x hx
      omega
    walk_at "go"
    have hwl : (wantsD ds).length = ds.length := by
      unfold wantsD
      rw [List.length_map]
    have hdl := D.len
    refine i_l_rings hdW (by rw [keys_wantsD, D.ks]; exact D.nd) (by omega) D.wants fun b H4 s4 hb1 hb2 => ?_
    walk_at "go"
    refine i_ifB (fun hb => ?_) (fun hb => ?_)
    · walk_at "go"
      obtain ⟨x, hx, k, hp⟩ := hb1 hb
      rw [wants_eq] at hp
      refine ⟨_, rfl, s4, .inr (.inr (.inl ⟨rfl, hall0, x, ?_, ring_none hp⟩))⟩
      rw [keys_rowsD]
      rw [keys_wantsD] at hx
      exact hx
    · walk_at "go"
      refine ⟨_, rfl, s4, .inr (.inr (.inr ⟨rfl, hall0, noring_all D.closed fun x hx k hk => ?_⟩))⟩
      rw [← wants_eq]
      refine hb2 hb x ?_ k ?_
      · rw [keys_wantsD]
        rw [keys_rowsD] at hx
        exact hx
      · have : (rowsD ds).length = ds.length := by
          unfold rowsD
          rw [List.length_map]
        omega
  rintro σ' H4 ⟨due, rfl, s4, hcase⟩
  have hdT4 := hdT.same txtR_grows s4
  have hdR4 := hdR.same stepsR_grows s4
  walk_at "go"
  rcases hcase with ⟨rfl, x, hx, hx2⟩ | ⟨rfl, hno2, x, hx, hx1⟩ | ⟨rfl, h0, hring⟩ | ⟨rfl, h0, hall⟩
  · refine i_l_said hdT4 D.small ⟨fun _ H' => ?_, fun rows r1 r2 => ?_, fun rows r1 r2 r3 => ?_, fun rows r1 r2 r3 => ?_⟩
    · walk_at "go"
      refine i_ifN (fun _ => ?_) (fun z => absurd z (by decide))
      exact q _
    · exact (no_rows r1 (D.bad hx hx2)).elim
    · exact (no_rows r1 (D.bad hx hx2)).elim
    · exact (no_rows r1 (D.bad hx hx2)).elim
  · refine i_l_said hdT4 D.small ⟨fun h2 => ?_, fun rows r1 r2 H' => ?_, fun rows r1 r2 r3 => ?_, fun rows r1 r2 r3 => ?_⟩
    · exact absurd h2 (D.fine hno2)
    · walk_at "go"
      refine i_ifN (fun _ => ?_) (fun z => absurd z (by decide))
      exact q _
    · exact absurd r2 (D.notClosed hx hx1 r1)
    · exact absurd r2 (D.notClosed hx hx1 r1)
  · have hrw := D.rows h0
    refine i_l_said hdT4 D.small ⟨fun h2 => ?_, fun rows r1 r2 => ?_, fun rows r1 r2 r3 H' => ?_, fun rows r1 r2 r3 => ?_⟩
    · exact absurd h2 (D.fine fun x hx => by rw [h0 x hx]; decide)
    · exact absurd (by rw [LinesRows.uniq r1 hrw]; exact D.closed) r2
    · walk_at "go"
      refine i_ifN (fun _ => ?_) (fun z => absurd z (by decide))
      exact q _
    · obtain ⟨n, hn, hno⟩ := hring
      rw [LinesRows.uniq r1 hrw] at r3
      obtain ⟨p, hp⟩ := r3 n hn
      exact absurd hp (hno p)
  · have hrw := D.rows h0
    refine i_l_said hdT4 D.small ⟨fun h2 => ?_, fun rows r1 r2 => ?_, fun rows r1 r2 r3 => ?_, fun rows r1 r2 r3 H' s5 => ?_⟩
    · exact absurd h2 (D.fine fun x hx => by rw [h0 x hx]; decide)
    · exact absurd (by rw [LinesRows.uniq r1 hrw]; exact D.closed) r2
    · obtain ⟨n, hn, hno⟩ := r3
      rw [LinesRows.uniq r1 hrw] at hn hno
      obtain ⟨p, hp⟩ := hall n hn
      exact absurd hp (hno p)
    · walk_at "go"
      refine i_ifN (fun z => absurd rfl z) (fun _ => ?_)
      walk_at "go"
      refine i_l_stand (hdT4.same txtR_grows s5) (hdR4.same stepsR_grows s5) D.small hrw (D.allPl hall) (fun n ss hm m hms => ?_) fun H6 s6 => ?_
      · obtain ⟨x, hx, e⟩ := List.mem_map.mp hm
        cases e
        exact (hod x hx).ok _ hms
      · exact q _
end


end Pw
namespace Pw
open PySem PySem.Spec PyProof.Rows L2
def topS (i : Nat) : Stmt := PySem.Challenge.pw_plainway_k06_tables_refused.main.body.getD i (.Pass ⟨0, 0, 0, 0⟩)
abbrev s_l_of : Stmt := topS 19
abbrev s_l_signs : Stmt := topS 20
abbrev s_l_name_by : Stmt := topS 22
abbrev s_l_escape : Stmt := topS 21
abbrev s_l_part_by : Stmt := topS 23
abbrev s_l_share_by : Stmt := topS 25
abbrev s_l_path_of : Stmt := topS 26
abbrev s_p_gone : Stmt := topS 14
abbrev s_p_wanted : Stmt := topS 15
abbrev s_p_settled : Stmt := topS 17
abbrev s_p_sign_of : Stmt := topS 8
abbrev s_p_name_of : Stmt := topS 9
abbrev s_p_step_of : Stmt := topS 11
abbrev s_p_steps_of : Stmt := topS 12
abbrev s_p_Shares_init : Stmt := inClass (topS 16) 0
abbrev s_l_said : Stmt := topS 24
abbrev s_l_walk_k06 : Stmt := topS 27
abbrev s_l_places : Stmt := topS 28
abbrev s_p_Shares_place : Stmt := inClass (topS 16) 2
abbrev s_l_stand : Stmt := topS 29
abbrev s_l_rings : Stmt := topS 30
abbrev s_l_row_of_forty_k06 : Stmt := topS 31
abbrev s_law_k06 : Stmt := topS 32
theorem lit_101_115_99_97_112_101 : (Str.ofString "escape") = S [101, 115, 99, 97, 112, 101] := by decide +kernel
theorem lit_101_115_99_97_112_101_32 : (Str.ofString "escape ") = S [101, 115, 99, 97, 112, 101, 32] := by decide +kernel
theorem lit_109_97_100_101 : (Str.ofString "made") = S [109, 97, 100, 101] := by decide +kernel
theorem lit_110_97_109_101 : (Str.ofString "name") = S [110, 97, 109, 101] := by decide +kernel
theorem lit_114_105_110_103_32 : (Str.ofString "ring ") = S [114, 105, 110, 103, 32] := by decide +kernel
theorem lit_114_111_111_116 : (Str.ofString "root") = S [114, 111, 111, 116] := by decide +kernel
theorem lit_115 : (Str.ofString "s") = S [115] := by decide +kernel
theorem lit_115_104_97_114_101 : (Str.ofString "share") = S [115, 104, 97, 114, 101] := by decide +kernel
theorem lit_115_104_97_114_101_32 : (Str.ofString "share ") = S [115, 104, 97, 114, 101, 32] := by decide +kernel
theorem lit_115_48 : (Str.ofString "s0") = S [115, 48] := by decide +kernel
theorem lit_117_112 : (Str.ofString "up") = S [117, 112] := by decide +kernel
theorem lit_118_97_108_117_101 : (Str.ofString "value") = S [118, 97, 108, 117, 101] := by decide +kernel
theorem lit_123_124_125_126 : (Str.ofString "{|}~") = S [123, 124, 125, 126] := by decide +kernel
theorem lit_126 : (Str.ofString "~") = S [126] := by decide +kernel
theorem lit_126_49_51 : (Str.ofString "~13") = S [126, 49, 51] := by decide +kernel
theorem lit_32 : (Str.ofString " ") = S [32] := by decide +kernel
theorem lit_46 : (Str.ofString ".") = S [46] := by decide +kernel
theorem lit_46_46 : (Str.ofString "..") = S [46, 46] := by decide +kernel
theorem lit_46_46_46 : (Str.ofString "...") = S [46, 46, 46] := by decide +kernel
theorem lit_46_46_97 : (Str.ofString "..a") = S [46, 46, 97] := by decide +kernel
theorem lit_46_97 : (Str.ofString ".a") = S [46, 97] := by decide +kernel
theorem lit_47 : (Str.ofString "/") = S [47] := by decide +kernel
theorem lit_47_126 : (Str.ofString "/~") = S [47, 126] := by decide +kernel
theorem lit_47_98 : (Str.ofString "/b") = S [47, 98] := by decide +kernel
theorem lit_58_59_60_61_62_63_64 : (Str.ofString ":;<=>?@") = S [58, 59, 60, 61, 62, 63, 64] := by decide +kernel
theorem lit_64 : (Str.ofString "@") = S [64] := by decide +kernel
theorem lit_64_115_51_57 : (Str.ofString "@s39") = S [64, 115, 51, 57] := by decide +kernel
theorem lit_64_126_49 : (Str.ofString "@~1") = S [64, 126, 49] := by decide +kernel
theorem lit_64_97 : (Str.ofString "@a") = S [64, 97] := by decide +kernel
theorem lit_91_92_93_94_95_96 : (Str.ofString "[\\]^_`") = S [91, 92, 93, 94, 95, 96] := by decide +kernel
theorem lit_97 : (Str.ofString "a") = S [97] := by decide +kernel
theorem lit_97_126_57_52 : (Str.ofString "a~94") = S [97, 126, 57, 52] := by decide +kernel
theorem lit_97_47_64_115 : (Str.ofString "a/@s") = S [97, 47, 64, 115] := by decide +kernel
theorem lit_97_47_98 : (Str.ofString "a/b") = S [97, 47, 98] := by decide +kernel
theorem lit_98 : (Str.ofString "b") = S [98] := by decide +kernel
theorem lit_h28665 : (Str.ofString "ABCDEFGHIJKLMNOPQRSTUVWXYZ") = S [65, 66, 67, 68, 69, 70, 71, 72, 73, 74, 75, 76, 77, 78, 79, 80, 81, 82, 83, 84, 85, 86, 87, 88, 89, 90] := by decide +kernel
theorem lit_h2970 : (Str.ofString "0123456789") = S [48, 49, 50, 51, 52, 53, 54, 55, 56, 57] := by decide +kernel
theorem lit_h39897 : (Str.ofString "abcdefghijklmnopqrstuvwxyz") = S [97, 98, 99, 100, 101, 102, 103, 104, 105, 106, 107, 108, 109, 110, 111, 112, 113, 114, 115, 116, 117, 118, 119, 120, 121, 122] := by decide +kernel
theorem lit_h5065 : (Str.ofString " !\"#$&'()*+,-./") = S [32, 33, 34, 35, 36, 38, 39, 40, 41, 42, 43, 44, 45, 46, 47] := by decide +kernel
theorem lit_h5540 : (Str.ofString "ring value") = S [114, 105, 110, 103, 32, 118, 97, 108, 117, 101] := by decide +kernel
theorem lit_h6622 : (Str.ofString "share value") = S [115, 104, 97, 114, 101, 32, 118, 97, 108, 117, 101] := by decide +kernel
theorem lit_h7802 : (Str.ofString "escape value") = S [101, 115, 99, 97, 112, 101, 32, 118, 97, 108, 117, 101] := by decide +kernel
theorem lit_nil : (Str.ofString "") = S [] := by decide +kernel
theorem sc_l_of : FnScope ["_law_script", "_law_k"] ["_law_script", "_law_k"] (defScope s_l_of) := ⟨rfl, rfl, rfl, by decide +kernel, rfl, by decide +kernel, by decide +kernel⟩
theorem sc_l_signs : FnScope ["_law_some"] [] (defScope s_l_signs) := ⟨rfl, rfl, rfl, by decide +kernel, rfl, by decide +kernel, by decide +kernel⟩
theorem sc_l_name_by : FnScope ["_law_cell", "_law_odd", "_law_size", "_law_name", "_law_k"] ["_law_cell"] (defScope s_l_name_by) := ⟨rfl, rfl, rfl, by decide +kernel, rfl, by decide +kernel, by decide +kernel⟩
theorem sc_l_escape : FnScope ["_law_sign", "_law_number"] ["_law_sign"] (defScope s_l_escape) := ⟨rfl, rfl, rfl, by decide +kernel, rfl, by decide +kernel, by decide +kernel⟩
theorem sc_l_part_by : FnScope ["_law_name", "_law_cell", "_law_found", "_law_k"] ["_law_name", "_law_cell"] (defScope s_l_part_by) := ⟨rfl, rfl, rfl, by decide +kernel, rfl, by decide +kernel, by decide +kernel⟩
theorem sc_l_share_by : FnScope ["_law_name", "_law_cell"] ["_law_name", "_law_cell"] (defScope s_l_share_by) := ⟨rfl, rfl, rfl, by decide +kernel, rfl, by decide +kernel, by decide +kernel⟩
theorem sc_l_path_of : FnScope ["_law_cell", "_law_names", "_law_parts", "_law_steps", "_law_odd", "_law_k", "_law_kind", "_law_name", "_law_line"] ["_law_cell", "_law_names"] (defScope s_l_path_of) := ⟨rfl, rfl, rfl, by decide +kernel, rfl, by decide +kernel, by decide +kernel⟩
theorem sc_p_gone : FnScope ["place", "step", "spots"] ["place", "step", "spots"] (defScope s_p_gone) := ⟨rfl, rfl, rfl, by decide +kernel, rfl, by decide +kernel, by decide +kernel⟩
theorem sc_p_wanted : FnScope ["steps", "step"] ["steps"] (defScope s_p_wanted) := ⟨rfl, rfl, rfl, by decide +kernel, rfl, by decide +kernel, by decide +kernel⟩
theorem sc_p_settled : FnScope ["rows", "spots", "waiting", "left", "name", "place", "step", "share"] ["rows"] (defScope s_p_settled) := ⟨rfl, rfl, rfl, by decide +kernel, rfl, by decide +kernel, by decide +kernel⟩
theorem sc_p_sign_of : FnScope ["figures", "number"] ["figures"] (defScope s_p_sign_of) := ⟨rfl, rfl, rfl, by decide +kernel, rfl, by decide +kernel, by decide +kernel⟩
theorem sc_p_name_of : FnScope ["part", "found", "at"] ["part"] (defScope s_p_name_of) := ⟨rfl, rfl, rfl, by decide +kernel, rfl, by decide +kernel, by decide +kernel⟩
theorem sc_p_step_of : FnScope ["part"] ["part"] (defScope s_p_step_of) := ⟨rfl, rfl, rfl, by decide +kernel, rfl, by decide +kernel, by decide +kernel⟩
theorem sc_p_steps_of : FnScope ["path", "steps", "part"] ["path"] (defScope s_p_steps_of) := ⟨rfl, rfl, rfl, by decide +kernel, rfl, by decide +kernel, by decide +kernel⟩
theorem sc_p_Shares_init : FnScope ["self", "table", "rows", "name", "path", "share"] ["self", "table"] (defScope s_p_Shares_init) := ⟨rfl, rfl, rfl, by decide +kernel, rfl, by decide +kernel, by decide +kernel⟩
theorem sc_l_said : FnScope ["_law_table", "e", "_law_kinds"] ["_law_table"] (defScope s_l_said) := ⟨rfl, rfl, rfl, by decide +kernel, rfl, by decide +kernel, by decide +kernel⟩
theorem sc_l_walk_k06 : FnScope ["_law_place", "_law_steps", "_law_places_here", "_law_step"] ["_law_place", "_law_steps", "_law_places_here"] (defScope s_l_walk_k06) := ⟨rfl, rfl, rfl, by decide +kernel, rfl, by decide +kernel, by decide +kernel⟩
theorem sc_l_places : FnScope ["_law_rows", "_law_places_here", "_law_turn", "_law_name", "_law_step"] ["_law_rows"] (defScope s_l_places) := ⟨rfl, rfl, rfl, by decide +kernel, rfl, by decide +kernel, by decide +kernel⟩
theorem sc_p_Shares_place : FnScope ["self", "name"] ["self", "name"] (defScope s_p_Shares_place) := ⟨rfl, rfl, rfl, by decide +kernel, rfl, by decide +kernel, by decide +kernel⟩
theorem sc_l_stand : FnScope ["_law_table", "_law_rows", "_law_shares", "_law_places_here", "_law_name", "_law_spot"] ["_law_table", "_law_rows"] (defScope s_l_stand) := ⟨rfl, rfl, rfl, by decide +kernel, rfl, by decide +kernel, by decide +kernel⟩
theorem sc_l_rings : FnScope ["_law_wants", "_law_reach", "_law_name", "_law_share", "_law_turn", "_law_other"] ["_law_wants"] (defScope s_l_rings) := ⟨rfl, rfl, rfl, by decide +kernel, rfl, by decide +kernel, by decide +kernel⟩
theorem sc_l_row_of_forty_k06 : FnScope ["_law_ring", "_law_table", "_law_k"] ["_law_ring"] (defScope s_l_row_of_forty_k06) := ⟨rfl, rfl, rfl, by decide +kernel, rfl, by decide +kernel, by decide +kernel⟩
theorem sc_law_k06 : FnScope ["_law_script", "_law_first", "_law_names", "_law_k", "_law_name", "_law_table", "_law_wants", "_law_rows", "_law_odds", "_law_made", "_law_due", "_law_step"] ["_law_script"] (defScope s_law_k06) := ⟨rfl, rfl, rfl, by decide +kernel, rfl, by decide +kernel, by decide +kernel⟩
structure Txt (K : PySem.W.Frag) (mg : Str → Option Value) (C : Ad) : Prop where
  F_l_of : ∃ f fd, Fun K "_law_of" "_law_of" s_l_of f fd ∧ mg "_law_of" = some (.ref f) ∧ Binds K fd ["_law_script", "_law_k"] []
  F_l_signs : ∃ f fd, Fun K "_law_signs" "_law_signs" s_l_signs f fd ∧ mg "_law_signs" = some (.ref f) ∧ Binds K fd [] []
  F_l_name_by : ∃ f fd, Fun K "_law_name_by" "_law_name_by" s_l_name_by f fd ∧ mg "_law_name_by" = some (.ref f) ∧ Binds K fd ["_law_cell"] []
  F_l_escape : ∃ f fd, Fun K "_law_escape" "_law_escape" s_l_escape f fd ∧ mg "_law_escape" = some (.ref f) ∧ Binds K fd ["_law_sign"] []
  F_l_part_by : ∃ f fd, Fun K "_law_part_by" "_law_part_by" s_l_part_by f fd ∧ mg "_law_part_by" = some (.ref f) ∧ Binds K fd ["_law_name", "_law_cell"] []
  F_l_share_by : ∃ f fd, Fun K "_law_share_by" "_law_share_by" s_l_share_by f fd ∧ mg "_law_share_by" = some (.ref f) ∧ Binds K fd ["_law_name", "_law_cell"] []
  F_l_path_of : ∃ f fd, Fun K "_law_path_of" "_law_path_of" s_l_path_of f fd ∧ mg "_law_path_of" = some (.ref f) ∧ Binds K fd ["_law_cell", "_law_names"] []
  F_p_gone : ∃ f fd, Fun K "gone" "gone" s_p_gone f fd ∧ mg "gone" = some (.ref f) ∧ Binds K fd ["place", "step", "spots"] []
  F_p_wanted : ∃ f fd, Fun K "wanted" "wanted" s_p_wanted f fd ∧ mg "wanted" = some (.ref f) ∧ Binds K fd ["steps"] []
  F_p_settled : ∃ f fd, Fun K "settled" "settled" s_p_settled f fd ∧ mg "settled" = some (.ref f) ∧ Binds K fd ["rows"] []
  F_p_sign_of : ∃ f fd, Fun K "sign_of" "sign_of" s_p_sign_of f fd ∧ mg "sign_of" = some (.ref f) ∧ Binds K fd ["figures"] []
  F_p_name_of : ∃ f fd, Fun K "name_of" "name_of" s_p_name_of f fd ∧ mg "name_of" = some (.ref f) ∧ Binds K fd ["part"] []
  F_p_step_of : ∃ f fd, Fun K "step_of" "step_of" s_p_step_of f fd ∧ mg "step_of" = some (.ref f) ∧ Binds K fd ["part"] []
  F_p_steps_of : ∃ f fd, Fun K "steps_of" "steps_of" s_p_steps_of f fd ∧ mg "steps_of" = some (.ref f) ∧ Binds K fd ["path"] []
  F_p_Shares_init : ∃ f fd, Fun K "__init__" "Shares.__init__" s_p_Shares_init f fd ∧ PySem.W.findIn K (.ref C.Sh) "__init__" = some (some (.ref f)) ∧ PySem.W.isFn K (.ref f) = true ∧ Binds K fd ["self", "table"] []
  F_l_said : ∃ f fd, Fun K "_law_said" "_law_said" s_l_said f fd ∧ mg "_law_said" = some (.ref f) ∧ Binds K fd ["_law_table"] []
  F_l_walk_k06 : ∃ f fd, Fun K "_law_walk" "_law_walk" s_l_walk_k06 f fd ∧ mg "_law_walk" = some (.ref f) ∧ Binds K fd ["_law_place", "_law_steps", "_law_places_here"] []
  F_l_places : ∃ f fd, Fun K "_law_places" "_law_places" s_l_places f fd ∧ mg "_law_places" = some (.ref f) ∧ Binds K fd ["_law_rows"] []
  F_p_Shares_place : ∃ f fd, Fun K "place" "Shares.place" s_p_Shares_place f fd ∧ Meth K C.Sh "place" f ∧ Binds K fd ["self", "name"] []
  F_l_stand : ∃ f fd, Fun K "_law_stand" "_law_stand" s_l_stand f fd ∧ mg "_law_stand" = some (.ref f) ∧ Binds K fd ["_law_table", "_law_rows"] []
  F_l_rings : ∃ f fd, Fun K "_law_rings" "_law_rings" s_l_rings f fd ∧ mg "_law_rings" = some (.ref f) ∧ Binds K fd ["_law_wants"] []
  F_l_row_of_forty_k06 : ∃ f fd, Fun K "_law_row_of_forty" "_law_row_of_forty" s_l_row_of_forty_k06 f fd ∧ mg "_law_row_of_forty" = some (.ref f) ∧ Binds K fd ["_law_ring"] []
  F_law_k06 : ∃ f fd, Fun K "law" "law" s_law_k06 f fd ∧ mg "law" = some (.ref f) ∧ Binds K fd ["_law_script"] []
  g_SIGNS : ∃ u, mg "SIGNS" = some u ∧ RelV (vS signs) u
  g_FIGURES : ∃ u, mg "FIGURES" = some u ∧ RelV (vS figs) u
  x_PathError : XC K mg "PathError" C.P
  g_PathError : ∃ u, mg "PathError" = some u ∧ RelV (V.ref C.P) u
  x_BadEscape : XC K mg "BadEscape" C.B
  g_BadEscape : ∃ u, mg "BadEscape" = some u ∧ RelV (V.ref C.B) u
  x_NoShare : XC K mg "NoShare" C.N
  g_NoShare : ∃ u, mg "NoShare" = some u ∧ RelV (V.ref C.N) u
  x_Ring : XC K mg "Ring" C.R
  g_Ring : ∃ u, mg "Ring" = some u ∧ RelV (V.ref C.R) u
  z_ValueError : mg "ValueError" = none
  z_all : mg "all" = none
  z_any : mg "any" = none
  z_dict : mg "dict" = none
  z_int : mg "int" = none
  z_isinstance : mg "isinstance" = none
  z_len : mg "len" = none
  z_list : mg "list" = none
  z_range : mg "range" = none
  z_str : mg "str" = none
  fx_FxV : FxV K C
  cl_Sh : Cls K C.Sh
  mk_Sh : PySem.W.makesIn K C.Sh = true ∧ PySem.W.keepIn K (.ref C.Sh) = true
  g_Shares : mg "Shares" = some (.ref C.Sh)
  na_order : NoAttr K C.Sh "order"
  na_spots : NoAttr K C.Sh "spots"
section
variable {P : Program} {w : World} {K : PySem.W.Frag} {mg : Str → Option Value} {base : Heap} {C : Ad}
def raw (sp : Sp) : Sp := fun vs H2 Q2 E => ∃ H Q, H2 = noDT H ∧ Q2 = Fgt H Q ∧ sp vs H Q E
def rawX (sp : Sp) : Sp := fun vs H2 Q2 E2 => ∃ H Q E, H2 = noDT H ∧ Q2 = Fgt H Q ∧ E2 = (fun cls d H1 => Same (noDT H) H1 ∧ E cls d H) ∧ sp vs H Q E
theorem len_l_of {vs : List V} {H : Hp} {Q : VK} {E : XK} (h : sp_l_of K C vs H Q E) : vs.length = 2 := by
  first
    | (obtain ⟨rfl, _⟩ := h; rfl)
    | (obtain ⟨_, rfl, _⟩ := h; rfl)
    | (obtain ⟨_, _, rfl, _⟩ := h; rfl)
    | (obtain ⟨_, _, _, rfl, _⟩ := h; rfl)
    | (obtain ⟨_, _, _, _, rfl, _⟩ := h; rfl)
    | (obtain ⟨_, _, _, _, _, rfl, _⟩ := h; rfl)
    | (obtain ⟨_, _, _, _, _, _, rfl, _⟩ := h; rfl)
    | (obtain ⟨_, _, _, _, _, _, _, rfl, _⟩ := h; rfl)
    | (obtain ⟨_, _, _, _, _, _, _, _, rfl, _⟩ := h; rfl)
    | (obtain ⟨_, _, _, _, _, _, _, _, _, rfl, _⟩ := h; rfl)
    | (obtain ⟨_, _, _, _, _, _, _, _, _, _, rfl, _⟩ := h; rfl)
    | (obtain ⟨_, _, _, _, _, _, _, _, _, _, _, rfl, _⟩ := h; rfl)
    | (obtain ⟨_, _, _, _, _, _, _, _, _, _, _, _, rfl, _⟩ := h; rfl)
    | (obtain ⟨_, _, _, _, _, _, _, _, _, _, _, _, _, rfl, _⟩ := h; rfl)
theorem len_l_signs {vs : List V} {H : Hp} {Q : VK} {E : XK} (h : sp_l_signs K C vs H Q E) : vs.length = 0 := by
  first
    | (obtain ⟨rfl, _⟩ := h; rfl)
    | (obtain ⟨_, rfl, _⟩ := h; rfl)
    | (obtain ⟨_, _, rfl, _⟩ := h; rfl)
    | (obtain ⟨_, _, _, rfl, _⟩ := h; rfl)
    | (obtain ⟨_, _, _, _, rfl, _⟩ := h; rfl)
    | (obtain ⟨_, _, _, _, _, rfl, _⟩ := h; rfl)
    | (obtain ⟨_, _, _, _, _, _, rfl, _⟩ := h; rfl)
    | (obtain ⟨_, _, _, _, _, _, _, rfl, _⟩ := h; rfl)
    | (obtain ⟨_, _, _, _, _, _, _, _, rfl, _⟩ := h; rfl)
    | (obtain ⟨_, _, _, _, _, _, _, _, _, rfl, _⟩ := h; rfl)
    | (obtain ⟨_, _, _, _, _, _, _, _, _, _, rfl, _⟩ := h; rfl)
    | (obtain ⟨_, _, _, _, _, _, _, _, _, _, _, rfl, _⟩ := h; rfl)
    | (obtain ⟨_, _, _, _, _, _, _, _, _, _, _, _, rfl, _⟩ := h; rfl)
    | (obtain ⟨_, _, _, _, _, _, _, _, _, _, _, _, _, rfl, _⟩ := h; rfl)
theorem len_l_name_by {vs : List V} {H : Hp} {Q : VK} {E : XK} (h : sp_l_name_by K C vs H Q E) : vs.length = 1 := by
  first
    | (obtain ⟨rfl, _⟩ := h; rfl)
    | (obtain ⟨_, rfl, _⟩ := h; rfl)
    | (obtain ⟨_, _, rfl, _⟩ := h; rfl)
    | (obtain ⟨_, _, _, rfl, _⟩ := h; rfl)
    | (obtain ⟨_, _, _, _, rfl, _⟩ := h; rfl)
    | (obtain ⟨_, _, _, _, _, rfl, _⟩ := h; rfl)
    | (obtain ⟨_, _, _, _, _, _, rfl, _⟩ := h; rfl)
    | (obtain ⟨_, _, _, _, _, _, _, rfl, _⟩ := h; rfl)
    | (obtain ⟨_, _, _, _, _, _, _, _, rfl, _⟩ := h; rfl)
    | (obtain ⟨_, _, _, _, _, _, _, _, _, rfl, _⟩ := h; rfl)
    | (obtain ⟨_, _, _, _, _, _, _, _, _, _, rfl, _⟩ := h; rfl)
    | (obtain ⟨_, _, _, _, _, _, _, _, _, _, _, rfl, _⟩ := h; rfl)
    | (obtain ⟨_, _, _, _, _, _, _, _, _, _, _, _, rfl, _⟩ := h; rfl)
    | (obtain ⟨_, _, _, _, _, _, _, _, _, _, _, _, _, rfl, _⟩ := h; rfl)
theorem len_l_escape {vs : List V} {H : Hp} {Q : VK} {E : XK} (h : sp_l_escape K C vs H Q E) : vs.length = 1 := by
  first
    | (obtain ⟨rfl, _⟩ := h; rfl)
    | (obtain ⟨_, rfl, _⟩ := h; rfl)
    | (obtain ⟨_, _, rfl, _⟩ := h; rfl)
    | (obtain ⟨_, _, _, rfl, _⟩ := h; rfl)
    | (obtain ⟨_, _, _, _, rfl, _⟩ := h; rfl)
    | (obtain ⟨_, _, _, _, _, rfl, _⟩ := h; rfl)
    | (obtain ⟨_, _, _, _, _, _, rfl, _⟩ := h; rfl)
    | (obtain ⟨_, _, _, _, _, _, _, rfl, _⟩ := h; rfl)
    | (obtain ⟨_, _, _, _, _, _, _, _, rfl, _⟩ := h; rfl)
    | (obtain ⟨_, _, _, _, _, _, _, _, _, rfl, _⟩ := h; rfl)
    | (obtain ⟨_, _, _, _, _, _, _, _, _, _, rfl, _⟩ := h; rfl)
    | (obtain ⟨_, _, _, _, _, _, _, _, _, _, _, rfl, _⟩ := h; rfl)
    | (obtain ⟨_, _, _, _, _, _, _, _, _, _, _, _, rfl, _⟩ := h; rfl)
    | (obtain ⟨_, _, _, _, _, _, _, _, _, _, _, _, _, rfl, _⟩ := h; rfl)
theorem len_l_part_by {vs : List V} {H : Hp} {Q : VK} {E : XK} (h : sp_l_part_by K C vs H Q E) : vs.length = 2 := by
  first
    | (obtain ⟨rfl, _⟩ := h; rfl)
    | (obtain ⟨_, rfl, _⟩ := h; rfl)
    | (obtain ⟨_, _, rfl, _⟩ := h; rfl)
    | (obtain ⟨_, _, _, rfl, _⟩ := h; rfl)
    | (obtain ⟨_, _, _, _, rfl, _⟩ := h; rfl)
    | (obtain ⟨_, _, _, _, _, rfl, _⟩ := h; rfl)
    | (obtain ⟨_, _, _, _, _, _, rfl, _⟩ := h; rfl)
    | (obtain ⟨_, _, _, _, _, _, _, rfl, _⟩ := h; rfl)
    | (obtain ⟨_, _, _, _, _, _, _, _, rfl, _⟩ := h; rfl)
    | (obtain ⟨_, _, _, _, _, _, _, _, _, rfl, _⟩ := h; rfl)
    | (obtain ⟨_, _, _, _, _, _, _, _, _, _, rfl, _⟩ := h; rfl)
    | (obtain ⟨_, _, _, _, _, _, _, _, _, _, _, rfl, _⟩ := h; rfl)
    | (obtain ⟨_, _, _, _, _, _, _, _, _, _, _, _, rfl, _⟩ := h; rfl)
    | (obtain ⟨_, _, _, _, _, _, _, _, _, _, _, _, _, rfl, _⟩ := h; rfl)
theorem len_l_share_by {vs : List V} {H : Hp} {Q : VK} {E : XK} (h : sp_l_share_by K C vs H Q E) : vs.length = 2 := by
  first
    | (obtain ⟨rfl, _⟩ := h; rfl)
    | (obtain ⟨_, rfl, _⟩ := h; rfl)
    | (obtain ⟨_, _, rfl, _⟩ := h; rfl)
    | (obtain ⟨_, _, _, rfl, _⟩ := h; rfl)
    | (obtain ⟨_, _, _, _, rfl, _⟩ := h; rfl)
    | (obtain ⟨_, _, _, _, _, rfl, _⟩ := h; rfl)
    | (obtain ⟨_, _, _, _, _, _, rfl, _⟩ := h; rfl)
    | (obtain ⟨_, _, _, _, _, _, _, rfl, _⟩ := h; rfl)
    | (obtain ⟨_, _, _, _, _, _, _, _, rfl, _⟩ := h; rfl)
    | (obtain ⟨_, _, _, _, _, _, _, _, _, rfl, _⟩ := h; rfl)
    | (obtain ⟨_, _, _, _, _, _, _, _, _, _, rfl, _⟩ := h; rfl)
    | (obtain ⟨_, _, _, _, _, _, _, _, _, _, _, rfl, _⟩ := h; rfl)
    | (obtain ⟨_, _, _, _, _, _, _, _, _, _, _, _, rfl, _⟩ := h; rfl)
    | (obtain ⟨_, _, _, _, _, _, _, _, _, _, _, _, _, rfl, _⟩ := h; rfl)
theorem len_l_path_of {vs : List V} {H : Hp} {Q : VK} {E : XK} (h : sp_l_path_of K C vs H Q E) : vs.length = 2 := by
  first
    | (obtain ⟨rfl, _⟩ := h; rfl)
    | (obtain ⟨_, rfl, _⟩ := h; rfl)
    | (obtain ⟨_, _, rfl, _⟩ := h; rfl)
    | (obtain ⟨_, _, _, rfl, _⟩ := h; rfl)
    | (obtain ⟨_, _, _, _, rfl, _⟩ := h; rfl)
    | (obtain ⟨_, _, _, _, _, rfl, _⟩ := h; rfl)
    | (obtain ⟨_, _, _, _, _, _, rfl, _⟩ := h; rfl)
    | (obtain ⟨_, _, _, _, _, _, _, rfl, _⟩ := h; rfl)
    | (obtain ⟨_, _, _, _, _, _, _, _, rfl, _⟩ := h; rfl)
    | (obtain ⟨_, _, _, _, _, _, _, _, _, rfl, _⟩ := h; rfl)
    | (obtain ⟨_, _, _, _, _, _, _, _, _, _, rfl, _⟩ := h; rfl)
    | (obtain ⟨_, _, _, _, _, _, _, _, _, _, _, rfl, _⟩ := h; rfl)
    | (obtain ⟨_, _, _, _, _, _, _, _, _, _, _, _, rfl, _⟩ := h; rfl)
    | (obtain ⟨_, _, _, _, _, _, _, _, _, _, _, _, _, rfl, _⟩ := h; rfl)
theorem len_p_gone {vs : List V} {H : Hp} {Q : VK} {E : XK} (h : sp_p_gone K C vs H Q E) : vs.length = 3 := by
  first
    | (obtain ⟨rfl, _⟩ := h; rfl)
    | (obtain ⟨_, rfl, _⟩ := h; rfl)
    | (obtain ⟨_, _, rfl, _⟩ := h; rfl)
    | (obtain ⟨_, _, _, rfl, _⟩ := h; rfl)
    | (obtain ⟨_, _, _, _, rfl, _⟩ := h; rfl)
    | (obtain ⟨_, _, _, _, _, rfl, _⟩ := h; rfl)
    | (obtain ⟨_, _, _, _, _, _, rfl, _⟩ := h; rfl)
    | (obtain ⟨_, _, _, _, _, _, _, rfl, _⟩ := h; rfl)
    | (obtain ⟨_, _, _, _, _, _, _, _, rfl, _⟩ := h; rfl)
    | (obtain ⟨_, _, _, _, _, _, _, _, _, rfl, _⟩ := h; rfl)
    | (obtain ⟨_, _, _, _, _, _, _, _, _, _, rfl, _⟩ := h; rfl)
    | (obtain ⟨_, _, _, _, _, _, _, _, _, _, _, rfl, _⟩ := h; rfl)
    | (obtain ⟨_, _, _, _, _, _, _, _, _, _, _, _, rfl, _⟩ := h; rfl)
    | (obtain ⟨_, _, _, _, _, _, _, _, _, _, _, _, _, rfl, _⟩ := h; rfl)
theorem len_p_wanted {vs : List V} {H : Hp} {Q : VK} {E : XK} (h : sp_p_wanted K C vs H Q E) : vs.length = 1 := by
  first
    | (obtain ⟨rfl, _⟩ := h; rfl)
    | (obtain ⟨_, rfl, _⟩ := h; rfl)
    | (obtain ⟨_, _, rfl, _⟩ := h; rfl)
    | (obtain ⟨_, _, _, rfl, _⟩ := h; rfl)
    | (obtain ⟨_, _, _, _, rfl, _⟩ := h; rfl)
    | (obtain ⟨_, _, _, _, _, rfl, _⟩ := h; rfl)
    | (obtain ⟨_, _, _, _, _, _, rfl, _⟩ := h; rfl)
    | (obtain ⟨_, _, _, _, _, _, _, rfl, _⟩ := h; rfl)
    | (obtain ⟨_, _, _, _, _, _, _, _, rfl, _⟩ := h; rfl)
    | (obtain ⟨_, _, _, _, _, _, _, _, _, rfl, _⟩ := h; rfl)
    | (obtain ⟨_, _, _, _, _, _, _, _, _, _, rfl, _⟩ := h; rfl)
    | (obtain ⟨_, _, _, _, _, _, _, _, _, _, _, rfl, _⟩ := h; rfl)
    | (obtain ⟨_, _, _, _, _, _, _, _, _, _, _, _, rfl, _⟩ := h; rfl)
    | (obtain ⟨_, _, _, _, _, _, _, _, _, _, _, _, _, rfl, _⟩ := h; rfl)
theorem len_p_settled {vs : List V} {H : Hp} {Q : VK} {E : XK} (h : sp_p_settled K C vs H Q E) : vs.length = 1 := by
  first
    | (obtain ⟨rfl, _⟩ := h; rfl)
    | (obtain ⟨_, rfl, _⟩ := h; rfl)
    | (obtain ⟨_, _, rfl, _⟩ := h; rfl)
    | (obtain ⟨_, _, _, rfl, _⟩ := h; rfl)
    | (obtain ⟨_, _, _, _, rfl, _⟩ := h; rfl)
    | (obtain ⟨_, _, _, _, _, rfl, _⟩ := h; rfl)
    | (obtain ⟨_, _, _, _, _, _, rfl, _⟩ := h; rfl)
    | (obtain ⟨_, _, _, _, _, _, _, rfl, _⟩ := h; rfl)
    | (obtain ⟨_, _, _, _, _, _, _, _, rfl, _⟩ := h; rfl)
    | (obtain ⟨_, _, _, _, _, _, _, _, _, rfl, _⟩ := h; rfl)
    | (obtain ⟨_, _, _, _, _, _, _, _, _, _, rfl, _⟩ := h; rfl)
    | (obtain ⟨_, _, _, _, _, _, _, _, _, _, _, rfl, _⟩ := h; rfl)
    | (obtain ⟨_, _, _, _, _, _, _, _, _, _, _, _, rfl, _⟩ := h; rfl)
    | (obtain ⟨_, _, _, _, _, _, _, _, _, _, _, _, _, rfl, _⟩ := h; rfl)
theorem len_p_sign_of {vs : List V} {H : Hp} {Q : VK} {E : XK} (h : sp_p_sign_of K C vs H Q E) : vs.length = 1 := by
  first
    | (obtain ⟨rfl, _⟩ := h; rfl)
    | (obtain ⟨_, rfl, _⟩ := h; rfl)
    | (obtain ⟨_, _, rfl, _⟩ := h; rfl)
    | (obtain ⟨_, _, _, rfl, _⟩ := h; rfl)
    | (obtain ⟨_, _, _, _, rfl, _⟩ := h; rfl)
    | (obtain ⟨_, _, _, _, _, rfl, _⟩ := h; rfl)
    | (obtain ⟨_, _, _, _, _, _, rfl, _⟩ := h; rfl)
    | (obtain ⟨_, _, _, _, _, _, _, rfl, _⟩ := h; rfl)
    | (obtain ⟨_, _, _, _, _, _, _, _, rfl, _⟩ := h; rfl)
    | (obtain ⟨_, _, _, _, _, _, _, _, _, rfl, _⟩ := h; rfl)
    | (obtain ⟨_, _, _, _, _, _, _, _, _, _, rfl, _⟩ := h; rfl)
    | (obtain ⟨_, _, _, _, _, _, _, _, _, _, _, rfl, _⟩ := h; rfl)
    | (obtain ⟨_, _, _, _, _, _, _, _, _, _, _, _, rfl, _⟩ := h; rfl)
    | (obtain ⟨_, _, _, _, _, _, _, _, _, _, _, _, _, rfl, _⟩ := h; rfl)
theorem len_p_name_of {vs : List V} {H : Hp} {Q : VK} {E : XK} (h : sp_p_name_of K C vs H Q E) : vs.length = 1 := by
  first
    | (obtain ⟨rfl, _⟩ := h; rfl)
    | (obtain ⟨_, rfl, _⟩ := h; rfl)
    | (obtain ⟨_, _, rfl, _⟩ := h; rfl)
    | (obtain ⟨_, _, _, rfl, _⟩ := h; rfl)
    | (obtain ⟨_, _, _, _, rfl, _⟩ := h; rfl)
    | (obtain ⟨_, _, _, _, _, rfl, _⟩ := h; rfl)
    | (obtain ⟨_, _, _, _, _, _, rfl, _⟩ := h; rfl)
    | (obtain ⟨_, _, _, _, _, _, _, rfl, _⟩ := h; rfl)
    | (obtain ⟨_, _, _, _, _, _, _, _, rfl, _⟩ := h; rfl)
    | (obtain ⟨_, _, _, _, _, _, _, _, _, rfl, _⟩ := h; rfl)
    | (obtain ⟨_, _, _, _, _, _, _, _, _, _, rfl, _⟩ := h; rfl)
    | (obtain ⟨_, _, _, _, _, _, _, _, _, _, _, rfl, _⟩ := h; rfl)
    | (obtain ⟨_, _, _, _, _, _, _, _, _, _, _, _, rfl, _⟩ := h; rfl)
    | (obtain ⟨_, _, _, _, _, _, _, _, _, _, _, _, _, rfl, _⟩ := h; rfl)
theorem len_p_step_of {vs : List V} {H : Hp} {Q : VK} {E : XK} (h : sp_p_step_of K C vs H Q E) : vs.length = 1 := by
  first
    | (obtain ⟨rfl, _⟩ := h; rfl)
    | (obtain ⟨_, rfl, _⟩ := h; rfl)
    | (obtain ⟨_, _, rfl, _⟩ := h; rfl)
    | (obtain ⟨_, _, _, rfl, _⟩ := h; rfl)
    | (obtain ⟨_, _, _, _, rfl, _⟩ := h; rfl)
    | (obtain ⟨_, _, _, _, _, rfl, _⟩ := h; rfl)
    | (obtain ⟨_, _, _, _, _, _, rfl, _⟩ := h; rfl)
    | (obtain ⟨_, _, _, _, _, _, _, rfl, _⟩ := h; rfl)
    | (obtain ⟨_, _, _, _, _, _, _, _, rfl, _⟩ := h; rfl)
    | (obtain ⟨_, _, _, _, _, _, _, _, _, rfl, _⟩ := h; rfl)
    | (obtain ⟨_, _, _, _, _, _, _, _, _, _, rfl, _⟩ := h; rfl)
    | (obtain ⟨_, _, _, _, _, _, _, _, _, _, _, rfl, _⟩ := h; rfl)
    | (obtain ⟨_, _, _, _, _, _, _, _, _, _, _, _, rfl, _⟩ := h; rfl)
    | (obtain ⟨_, _, _, _, _, _, _, _, _, _, _, _, _, rfl, _⟩ := h; rfl)
theorem len_p_steps_of {vs : List V} {H : Hp} {Q : VK} {E : XK} (h : sp_p_steps_of K C vs H Q E) : vs.length = 1 := by
  first
    | (obtain ⟨rfl, _⟩ := h; rfl)
    | (obtain ⟨_, rfl, _⟩ := h; rfl)
    | (obtain ⟨_, _, rfl, _⟩ := h; rfl)
    | (obtain ⟨_, _, _, rfl, _⟩ := h; rfl)
    | (obtain ⟨_, _, _, _, rfl, _⟩ := h; rfl)
    | (obtain ⟨_, _, _, _, _, rfl, _⟩ := h; rfl)
    | (obtain ⟨_, _, _, _, _, _, rfl, _⟩ := h; rfl)
    | (obtain ⟨_, _, _, _, _, _, _, rfl, _⟩ := h; rfl)
    | (obtain ⟨_, _, _, _, _, _, _, _, rfl, _⟩ := h; rfl)
    | (obtain ⟨_, _, _, _, _, _, _, _, _, rfl, _⟩ := h; rfl)
    | (obtain ⟨_, _, _, _, _, _, _, _, _, _, rfl, _⟩ := h; rfl)
    | (obtain ⟨_, _, _, _, _, _, _, _, _, _, _, rfl, _⟩ := h; rfl)
    | (obtain ⟨_, _, _, _, _, _, _, _, _, _, _, _, rfl, _⟩ := h; rfl)
    | (obtain ⟨_, _, _, _, _, _, _, _, _, _, _, _, _, rfl, _⟩ := h; rfl)
theorem len_p_Shares_init {vs : List V} {H : Hp} {Q : VK} {E : XK} (h : sp_p_Shares_init K C vs H Q E) : vs.length = 2 := by
  first
    | (obtain ⟨rfl, _⟩ := h; rfl)
    | (obtain ⟨_, rfl, _⟩ := h; rfl)
    | (obtain ⟨_, _, rfl, _⟩ := h; rfl)
    | (obtain ⟨_, _, _, rfl, _⟩ := h; rfl)
    | (obtain ⟨_, _, _, _, rfl, _⟩ := h; rfl)
    | (obtain ⟨_, _, _, _, _, rfl, _⟩ := h; rfl)
    | (obtain ⟨_, _, _, _, _, _, rfl, _⟩ := h; rfl)
    | (obtain ⟨_, _, _, _, _, _, _, rfl, _⟩ := h; rfl)
    | (obtain ⟨_, _, _, _, _, _, _, _, rfl, _⟩ := h; rfl)
    | (obtain ⟨_, _, _, _, _, _, _, _, _, rfl, _⟩ := h; rfl)
    | (obtain ⟨_, _, _, _, _, _, _, _, _, _, rfl, _⟩ := h; rfl)
    | (obtain ⟨_, _, _, _, _, _, _, _, _, _, _, rfl, _⟩ := h; rfl)
    | (obtain ⟨_, _, _, _, _, _, _, _, _, _, _, _, rfl, _⟩ := h; rfl)
    | (obtain ⟨_, _, _, _, _, _, _, _, _, _, _, _, _, rfl, _⟩ := h; rfl)
theorem len_l_said {vs : List V} {H : Hp} {Q : VK} {E : XK} (h : sp_l_said K C vs H Q E) : vs.length = 1 := by
  first
    | (obtain ⟨rfl, _⟩ := h; rfl)
    | (obtain ⟨_, rfl, _⟩ := h; rfl)
    | (obtain ⟨_, _, rfl, _⟩ := h; rfl)
    | (obtain ⟨_, _, _, rfl, _⟩ := h; rfl)
    | (obtain ⟨_, _, _, _, rfl, _⟩ := h; rfl)
    | (obtain ⟨_, _, _, _, _, rfl, _⟩ := h; rfl)
    | (obtain ⟨_, _, _, _, _, _, rfl, _⟩ := h; rfl)
    | (obtain ⟨_, _, _, _, _, _, _, rfl, _⟩ := h; rfl)
    | (obtain ⟨_, _, _, _, _, _, _, _, rfl, _⟩ := h; rfl)
    | (obtain ⟨_, _, _, _, _, _, _, _, _, rfl, _⟩ := h; rfl)
    | (obtain ⟨_, _, _, _, _, _, _, _, _, _, rfl, _⟩ := h; rfl)
    | (obtain ⟨_, _, _, _, _, _, _, _, _, _, _, rfl, _⟩ := h; rfl)
    | (obtain ⟨_, _, _, _, _, _, _, _, _, _, _, _, rfl, _⟩ := h; rfl)
    | (obtain ⟨_, _, _, _, _, _, _, _, _, _, _, _, _, rfl, _⟩ := h; rfl)
theorem len_l_walk_k06 {vs : List V} {H : Hp} {Q : VK} {E : XK} (h : sp_l_walk_k06 K C vs H Q E) : vs.length = 3 := by
  first
    | (obtain ⟨rfl, _⟩ := h; rfl)
    | (obtain ⟨_, rfl, _⟩ := h; rfl)
    | (obtain ⟨_, _, rfl, _⟩ := h; rfl)
    | (obtain ⟨_, _, _, rfl, _⟩ := h; rfl)
    | (obtain ⟨_, _, _, _, rfl, _⟩ := h; rfl)
    | (obtain ⟨_, _, _, _, _, rfl, _⟩ := h; rfl)
    | (obtain ⟨_, _, _, _, _, _, rfl, _⟩ := h; rfl)
    | (obtain ⟨_, _, _, _, _, _, _, rfl, _⟩ := h; rfl)
    | (obtain ⟨_, _, _, _, _, _, _, _, rfl, _⟩ := h; rfl)
    | (obtain ⟨_, _, _, _, _, _, _, _, _, rfl, _⟩ := h; rfl)
    | (obtain ⟨_, _, _, _, _, _, _, _, _, _, rfl, _⟩ := h; rfl)
    | (obtain ⟨_, _, _, _, _, _, _, _, _, _, _, rfl, _⟩ := h; rfl)
    | (obtain ⟨_, _, _, _, _, _, _, _, _, _, _, _, rfl, _⟩ := h; rfl)
    | (obtain ⟨_, _, _, _, _, _, _, _, _, _, _, _, _, rfl, _⟩ := h; rfl)
theorem len_l_places {vs : List V} {H : Hp} {Q : VK} {E : XK} (h : sp_l_places K C vs H Q E) : vs.length = 1 := by
  first
    | (obtain ⟨rfl, _⟩ := h; rfl)
    | (obtain ⟨_, rfl, _⟩ := h; rfl)
    | (obtain ⟨_, _, rfl, _⟩ := h; rfl)
    | (obtain ⟨_, _, _, rfl, _⟩ := h; rfl)
    | (obtain ⟨_, _, _, _, rfl, _⟩ := h; rfl)
    | (obtain ⟨_, _, _, _, _, rfl, _⟩ := h; rfl)
    | (obtain ⟨_, _, _, _, _, _, rfl, _⟩ := h; rfl)
    | (obtain ⟨_, _, _, _, _, _, _, rfl, _⟩ := h; rfl)
    | (obtain ⟨_, _, _, _, _, _, _, _, rfl, _⟩ := h; rfl)
    | (obtain ⟨_, _, _, _, _, _, _, _, _, rfl, _⟩ := h; rfl)
    | (obtain ⟨_, _, _, _, _, _, _, _, _, _, rfl, _⟩ := h; rfl)
    | (obtain ⟨_, _, _, _, _, _, _, _, _, _, _, rfl, _⟩ := h; rfl)
    | (obtain ⟨_, _, _, _, _, _, _, _, _, _, _, _, rfl, _⟩ := h; rfl)
    | (obtain ⟨_, _, _, _, _, _, _, _, _, _, _, _, _, rfl, _⟩ := h; rfl)
theorem len_p_Shares_place {vs : List V} {H : Hp} {Q : VK} {E : XK} (h : sp_p_Shares_place K C vs H Q E) : vs.length = 2 := by
  first
    | (obtain ⟨rfl, _⟩ := h; rfl)
    | (obtain ⟨_, rfl, _⟩ := h; rfl)
    | (obtain ⟨_, _, rfl, _⟩ := h; rfl)
    | (obtain ⟨_, _, _, rfl, _⟩ := h; rfl)
    | (obtain ⟨_, _, _, _, rfl, _⟩ := h; rfl)
    | (obtain ⟨_, _, _, _, _, rfl, _⟩ := h; rfl)
    | (obtain ⟨_, _, _, _, _, _, rfl, _⟩ := h; rfl)
    | (obtain ⟨_, _, _, _, _, _, _, rfl, _⟩ := h; rfl)
    | (obtain ⟨_, _, _, _, _, _, _, _, rfl, _⟩ := h; rfl)
    | (obtain ⟨_, _, _, _, _, _, _, _, _, rfl, _⟩ := h; rfl)
    | (obtain ⟨_, _, _, _, _, _, _, _, _, _, rfl, _⟩ := h; rfl)
    | (obtain ⟨_, _, _, _, _, _, _, _, _, _, _, rfl, _⟩ := h; rfl)
    | (obtain ⟨_, _, _, _, _, _, _, _, _, _, _, _, rfl, _⟩ := h; rfl)
    | (obtain ⟨_, _, _, _, _, _, _, _, _, _, _, _, _, rfl, _⟩ := h; rfl)
theorem len_l_stand {vs : List V} {H : Hp} {Q : VK} {E : XK} (h : sp_l_stand K C vs H Q E) : vs.length = 2 := by
  first
    | (obtain ⟨rfl, _⟩ := h; rfl)
    | (obtain ⟨_, rfl, _⟩ := h; rfl)
    | (obtain ⟨_, _, rfl, _⟩ := h; rfl)
    | (obtain ⟨_, _, _, rfl, _⟩ := h; rfl)
    | (obtain ⟨_, _, _, _, rfl, _⟩ := h; rfl)
    | (obtain ⟨_, _, _, _, _, rfl, _⟩ := h; rfl)
    | (obtain ⟨_, _, _, _, _, _, rfl, _⟩ := h; rfl)
    | (obtain ⟨_, _, _, _, _, _, _, rfl, _⟩ := h; rfl)
    | (obtain ⟨_, _, _, _, _, _, _, _, rfl, _⟩ := h; rfl)
    | (obtain ⟨_, _, _, _, _, _, _, _, _, rfl, _⟩ := h; rfl)
    | (obtain ⟨_, _, _, _, _, _, _, _, _, _, rfl, _⟩ := h; rfl)
    | (obtain ⟨_, _, _, _, _, _, _, _, _, _, _, rfl, _⟩ := h; rfl)
    | (obtain ⟨_, _, _, _, _, _, _, _, _, _, _, _, rfl, _⟩ := h; rfl)
    | (obtain ⟨_, _, _, _, _, _, _, _, _, _, _, _, _, rfl, _⟩ := h; rfl)
theorem len_l_rings {vs : List V} {H : Hp} {Q : VK} {E : XK} (h : sp_l_rings K C vs H Q E) : vs.length = 1 := by
  first
    | (obtain ⟨rfl, _⟩ := h; rfl)
    | (obtain ⟨_, rfl, _⟩ := h; rfl)
    | (obtain ⟨_, _, rfl, _⟩ := h; rfl)
    | (obtain ⟨_, _, _, rfl, _⟩ := h; rfl)
    | (obtain ⟨_, _, _, _, rfl, _⟩ := h; rfl)
    | (obtain ⟨_, _, _, _, _, rfl, _⟩ := h; rfl)
    | (obtain ⟨_, _, _, _, _, _, rfl, _⟩ := h; rfl)
    | (obtain ⟨_, _, _, _, _, _, _, rfl, _⟩ := h; rfl)
    | (obtain ⟨_, _, _, _, _, _, _, _, rfl, _⟩ := h; rfl)
    | (obtain ⟨_, _, _, _, _, _, _, _, _, rfl, _⟩ := h; rfl)
    | (obtain ⟨_, _, _, _, _, _, _, _, _, _, rfl, _⟩ := h; rfl)
    | (obtain ⟨_, _, _, _, _, _, _, _, _, _, _, rfl, _⟩ := h; rfl)
    | (obtain ⟨_, _, _, _, _, _, _, _, _, _, _, _, rfl, _⟩ := h; rfl)
    | (obtain ⟨_, _, _, _, _, _, _, _, _, _, _, _, _, rfl, _⟩ := h; rfl)
theorem len_l_row_of_forty_k06 {vs : List V} {H : Hp} {Q : VK} {E : XK} (h : sp_l_row_of_forty_k06 K C vs H Q E) : vs.length = 1 := by
  first
    | (obtain ⟨rfl, _⟩ := h; rfl)
    | (obtain ⟨_, rfl, _⟩ := h; rfl)
    | (obtain ⟨_, _, rfl, _⟩ := h; rfl)
    | (obtain ⟨_, _, _, rfl, _⟩ := h; rfl)
    | (obtain ⟨_, _, _, _, rfl, _⟩ := h; rfl)
    | (obtain ⟨_, _, _, _, _, rfl, _⟩ := h; rfl)
    | (obtain ⟨_, _, _, _, _, _, rfl, _⟩ := h; rfl)
    | (obtain ⟨_, _, _, _, _, _, _, rfl, _⟩ := h; rfl)
    | (obtain ⟨_, _, _, _, _, _, _, _, rfl, _⟩ := h; rfl)
    | (obtain ⟨_, _, _, _, _, _, _, _, _, rfl, _⟩ := h; rfl)
    | (obtain ⟨_, _, _, _, _, _, _, _, _, _, rfl, _⟩ := h; rfl)
    | (obtain ⟨_, _, _, _, _, _, _, _, _, _, _, rfl, _⟩ := h; rfl)
    | (obtain ⟨_, _, _, _, _, _, _, _, _, _, _, _, rfl, _⟩ := h; rfl)
    | (obtain ⟨_, _, _, _, _, _, _, _, _, _, _, _, _, rfl, _⟩ := h; rfl)
theorem len_law {vs : List V} {H : Hp} {Q : VK} {E : XK} (h : sp_law K C vs H Q E) : vs.length = 1 := by
  first
    | (obtain ⟨rfl, _⟩ := h; rfl)
    | (obtain ⟨_, rfl, _⟩ := h; rfl)
    | (obtain ⟨_, _, rfl, _⟩ := h; rfl)
    | (obtain ⟨_, _, _, rfl, _⟩ := h; rfl)
    | (obtain ⟨_, _, _, _, rfl, _⟩ := h; rfl)
    | (obtain ⟨_, _, _, _, _, rfl, _⟩ := h; rfl)
    | (obtain ⟨_, _, _, _, _, _, rfl, _⟩ := h; rfl)
    | (obtain ⟨_, _, _, _, _, _, _, rfl, _⟩ := h; rfl)
    | (obtain ⟨_, _, _, _, _, _, _, _, rfl, _⟩ := h; rfl)
    | (obtain ⟨_, _, _, _, _, _, _, _, _, rfl, _⟩ := h; rfl)
    | (obtain ⟨_, _, _, _, _, _, _, _, _, _, rfl, _⟩ := h; rfl)
    | (obtain ⟨_, _, _, _, _, _, _, _, _, _, _, rfl, _⟩ := h; rfl)
    | (obtain ⟨_, _, _, _, _, _, _, _, _, _, _, _, rfl, _⟩ := h; rfl)
    | (obtain ⟨_, _, _, _, _, _, _, _, _, _, _, _, _, rfl, _⟩ := h; rfl)
theorem ok_l_of (T : Txt K mg C) : Fn P w K mg base CX0 1 "_law_of" (sp_l_of K C) := by
  obtain ⟨f, fd, F, hm, hb⟩ := T.F_l_of
  have G : FnOk P w K mg base CX0 1 f fd ["_law_script", "_law_k"] (raw (sp_l_of K C)) := by
    refine F.ok sc_l_of (fun vs H Q E h => ?_) (fun cdv A outer s H vs Q E hr h => ?_)
    · obtain ⟨H0, Q0, rfl, rfl, h⟩ := h
      exact len_l_of h
    · obtain ⟨H0, Q0, rfl, rfl, h⟩ := h
      have hu := hu_of hr
      refine ⟨t_l_of K C E, ?_, rd_l_of h⟩
      exact (pss_one (ps_ret (pe_ix ix_L (pe_op op_cat (pe_slice sl_L (pv 0) (po_some (pv 1)) (po_some (pe_op op_add1 (pv 1) pe_int))) (pe_lst (pa_cons pe_int pa_nil))) pe_int (fun _ _ => rfl))))
  exact Fn.of F hm hb (FnOk.forget G fun vs H Q E h => ⟨H, Q, rfl, rfl, h⟩)
theorem ok_l_signs (T : Txt K mg C) : Fn P w K mg base CX0 1 "_law_signs" (sp_l_signs K C) := by
  obtain ⟨f, fd, F, hm, hb⟩ := T.F_l_signs
  have G : FnOk P w K mg base CX0 1 f fd [] (sp_l_signs K C) := by
    refine F.ok sc_l_signs (fun vs H Q E h => ?_) (fun cdv A outer s H vs Q E hr h => ?_)
    · exact len_l_signs h
    · skip
      have hu := hu_of hr
      refine ⟨t_l_signs K C E, ?_, rd_l_signs h⟩
      exact (pss_cons (ps_set (i := 0) sc_l_signs.nd rfl (.inl rfl) (pe_op op_addS (pe_op op_addS (pe_lit _ lit_h5065) (pe_lit _ lit_h2970)) (pe_lit _ lit_58_59_60_61_62_63_64)))
        (pss_cons (ps_set (i := 0) sc_l_signs.nd rfl (.inl rfl) (pe_op op_addS (pe_op op_addS (pv 0) (pe_lit _ lit_h28665)) (pe_lit _ lit_91_92_93_94_95_96)))
        (pss_one (ps_ret (pe_op op_addS (pe_op op_addS (pv 0) (pe_lit _ lit_h39897)) (pe_lit _ lit_123_124_125_126))))))
  exact Fn.of F hm hb G
theorem ok_l_name_by (T : Txt K mg C) : Fn P w K mg base CX0 2 "_law_name_by" (sp_l_name_by K C) := by
  obtain ⟨f, fd, F, hm, hb⟩ := T.F_l_name_by
  have G : FnOk P w K mg base CX0 2 f fd ["_law_cell"] (raw (sp_l_name_by K C)) := by
    refine F.ok sc_l_name_by (fun vs H Q E h => ?_) (fun cdv A outer s H vs Q E hr h => ?_)
    · obtain ⟨H0, Q0, rfl, rfl, h⟩ := h
      exact len_l_name_by h
    · obtain ⟨H0, Q0, rfl, rfl, h⟩ := h
      have hu := hu_of hr
      refine ⟨t_l_name_by K C E, ?_, rd_l_name_by h⟩
      exact (pss_cons (ps_set (i := 1) sc_l_name_by.nd rfl (.inl rfl) (pe_lst (pa_cons (pe_lit _ lit_46) (pa_cons (pe_lit _ lit_46_46) (pa_cons (pe_lit _ lit_126) (pa_cons (pe_lit _ lit_47) (pa_cons (pe_lit _ lit_64) (pa_cons (pe_lit _ lit_64_97) (pa_cons (pe_lit _ lit_97) (pa_cons (pe_lit _ lit_98) (pa_cons (pe_lit _ lit_46_46_46) (pa_cons (pe_lit _ lit_46_97) (pa_cons (pe_lit _ lit_126_49_51) (pa_cons (pe_lit _ lit_97_47_98) (pa_cons (pe_lit _ lit_32) (pa_cons (pe_lit _ lit_46_46_97) pa_nil))))))))))))))))
        (pss_cons (ps_if (pt_cmpR op_eqI (pe_op op_mod' (pv 0) pe_int) pe_int (nomark _))
        (pss_one (ps_ret (pe_ix ix_L (pv 1) (pe_op op_mod' (pe_op op_div' (pv 0) pe_int) pe_int) (fun _ _ => rfl))))
        pss_nil)
        (pss_cons (ps_set (i := 2) sc_l_name_by.nd rfl (.inl rfl) (pe_op op_add1 pe_int (pe_op op_mod' (pe_op op_div' (pv 0) pe_int) pe_int)))
        (C8.pss_cut (ps_if (pt_cmpR op_eqI (pe_op op_mod' (pe_op op_div' (pv 0) pe_int) pe_int) pe_int (nomark _))
        (pss_one (ps_set (i := 2) sc_l_name_by.nd rfl (.inl rfl) (pe_op op_add1 (pv 2) (pe_op op_mod' (pe_op op_div' (pv 0) pe_int) pe_int))))
        pss_nil)
        (pss_cons (ps_set (i := 3) sc_l_name_by.nd rfl (.inl rfl) (pe_lit _ lit_nil))
        (pss_cons (ps_for PassesOwn.never rfl (pi_range1 (by rfl) T.z_range (pa_cons (pv 2) pa_nil)) (pg_name (i := 4) sc_l_name_by.nd rfl (.inl rfl))
        (pss_one (ps_set (i := 3) sc_l_name_by.nd rfl (.inl rfl) (pe_op op_addS (pv 3) (pe_ix ix_S (pe_fn00 (ok_l_signs T) hr (by decide) rfl) (pe_op op_mod' (pe_op op_div' (pe_op op_mod' (pe_op op_mulR' (pe_op op_add1 (pe_op op_div' (pv 0) pe_int) (pe_op op_mulL' pe_int (pv 4))) pe_int) pe_int) pe_int) pe_int) (fun _ _ => rfl))))))
        (pss_one (ps_ret (pv 3)))))))))
  exact Fn.of F hm hb (FnOk.forget G fun vs H Q E h => ⟨H, Q, rfl, rfl, h⟩)
theorem ok_l_escape (T : Txt K mg C) : Fn P w K mg base CX0 2 "_law_escape" (sp_l_escape K C) := by
  obtain ⟨f, fd, F, hm, hb⟩ := T.F_l_escape
  have G : FnOk P w K mg base CX0 2 f fd ["_law_sign"] (sp_l_escape K C) := by
    refine F.ok sc_l_escape (fun vs H Q E h => ?_) (fun cdv A outer s H vs Q E hr h => ?_)
    · exact len_l_escape h
    · skip
      have hu := hu_of hr
      refine ⟨t_l_escape K C E, ?_, rd_l_escape h⟩
      exact (pss_cons (ps_set (i := 1) sc_l_escape.nd rfl (.inl rfl) (pe_bm PySem.F.plainAttrs_str PySem.F.slot_str_index PySem.F.type_str_index mt_ixSigns (pe_fn00 (ok_l_signs T) hr (by decide) rfl) (pa_cons (pv 0) pa_nil)))
        (pss_one (ps_ret (pe_op op_addS (pe_op op_addS (pe_lit _ lit_126) (pe_callTy call_strD (by rfl) T.z_str (by decide +kernel) (pa_cons (pe_op op_div' (pv 1) pe_int) pa_nil))) (pe_callTy call_strD (by rfl) T.z_str (by decide +kernel) (pa_cons (pe_op op_mod' (pv 1) pe_int) pa_nil))))))
  exact Fn.of F hm hb G
theorem ok_l_part_by (T : Txt K mg C) : Fn P w K mg base CX0 3 "_law_part_by" (sp_l_part_by K C) := by
  obtain ⟨f, fd, F, hm, hb⟩ := T.F_l_part_by
  have G : FnOk P w K mg base CX0 3 f fd ["_law_name", "_law_cell"] (sp_l_part_by K C) := by
    refine F.ok sc_l_part_by (fun vs H Q E h => ?_) (fun cdv A outer s H vs Q E hr h => ?_)
    · exact len_l_part_by h
    · skip
      have hu := hu_of hr
      refine ⟨t_l_part_by K C E, ?_, rd_l_part_by h⟩
      exact (pss_cons (ps_set (i := 2) sc_l_part_by.nd rfl (.inl rfl) (pe_lit _ lit_nil))
        (pss_cons (ps_for PassesOwn.never rfl (pi_range1 (by rfl) T.z_range (pa_cons (pe_callB call_lenS (by rfl) T.z_len (by decide +kernel) (pa_cons (pv 0) pa_nil)) pa_nil)) (pg_name (i := 3) sc_l_part_by.nd rfl (.inl rfl))
        (C8.pss_cut (ps_if (PW.pt (pw_or (pt_cmpR op_inS' (pe_ix ix_S (pv 0) (pv 3) (fun _ _ => rfl)) (pe_lit _ lit_47_126) rfl) (pw_or (PW.pt (pw_and (pt_cmpR op_eqI (pv 3) pe_int (nomark _)) (pw_and1 (pt_cmpR op_eqS (pe_ix ix_S (pv 0) pe_int (fun _ _ => rfl)) (pe_lit _ lit_64) (nomark _))))) (pw_or1 (pt_cmpR op_eqI (pe_op op_mod' (pv 1) pe_int) pe_int (nomark _))))))
        (pss_one (ps_set (i := 2) sc_l_part_by.nd rfl (.inl rfl) (pe_op op_addS (pv 2) (pe_fn0 (ok_l_escape T) hr (by decide) rfl (pa_cons (pe_ix ix_S (pv 0) (pv 3) (fun _ _ => rfl)) pa_nil)))))
        (pss_one (ps_set (i := 2) sc_l_part_by.nd rfl (.inl rfl) (pe_op op_addS (pv 2) (pe_ix ix_S (pv 0) (pv 3) (fun _ _ => rfl))))))
        (pss_one (ps_set (i := 1) sc_l_part_by.nd rfl (.inl rfl) (pe_op op_div' (pv 1) pe_int)))))
        (C8.pss_cut (ps_if (PW.pt (pw_or (pt_cmpR op_eqS (pv 2) (pe_lit _ lit_46) (nomark _)) (pw_or1 (pt_cmpR op_eqS (pv 2) (pe_lit _ lit_46_46) (nomark _)))))
        (pss_one (ps_set (i := 2) sc_l_part_by.nd rfl (.inl rfl) (pe_op op_addS (pe_fn0 (ok_l_escape T) hr (by decide) rfl (pa_cons (pe_lit _ lit_46) pa_nil)) (pe_slice sl_S (pv 2) (po_some pe_int) po_none))))
        pss_nil)
        (pss_one (ps_ret (pv 2))))))
  exact Fn.of F hm hb G
theorem ok_l_share_by (T : Txt K mg C) : Fn P w K mg base CX0 4 "_law_share_by" (sp_l_share_by K C) := by
  obtain ⟨f, fd, F, hm, hb⟩ := T.F_l_share_by
  have G : FnOk P w K mg base CX0 4 f fd ["_law_name", "_law_cell"] (sp_l_share_by K C) := by
    refine F.ok sc_l_share_by (fun vs H Q E h => ?_) (fun cdv A outer s H vs Q E hr h => ?_)
    · exact len_l_share_by h
    · skip
      have hu := hu_of hr
      refine ⟨t_l_share_by K C E, ?_, rd_l_share_by h⟩
      exact (pss_cons (ps_if (PW.pt (pw_and (pt_cmpR op_eqI (pe_op op_mod' (pv 1) pe_int) pe_int (nomark _)) (pw_and (pt_cmpR op_niS' (pe_lit _ lit_47) (pv 0) rfl) (pw_and1 (pt_cmpR op_niS' (pe_lit _ lit_126) (pv 0) rfl)))))
        (pss_one (ps_ret (pe_op op_addS (pe_lit _ lit_64) (pv 0))))
        pss_nil)
        (pss_one (ps_ret (pe_op op_addS (pe_lit _ lit_64) (pe_fn0 (ok_l_part_by T) hr (by decide) rfl (pa_cons (pv 0) (pa_cons (pe_op op_div' (pv 1) pe_int) pa_nil)))))))
  exact Fn.of F hm hb G
theorem ok_l_path_of (T : Txt K mg C) : Fn P w K mg base CX0 5 "_law_path_of" (sp_l_path_of K C) := by
  obtain ⟨f, fd, F, hm, hb⟩ := T.F_l_path_of
  have G : FnOk P w K mg base CX0 5 f fd ["_law_cell", "_law_names"] (sp_l_path_of K C) := by
    refine F.ok sc_l_path_of (fun vs H Q E h => ?_) (fun cdv A outer s H vs Q E hr h => ?_)
    · exact len_l_path_of h
    · skip
      have hu := hu_of hr
      refine ⟨t_l_path_of K C E, ?_, rd_l_path_of h⟩
      exact (pss_cons (ps_set (i := 2) sc_l_path_of.nd rfl (.inl rfl) (pe_lst pa_nil))
        (pss_cons (ps_set (i := 3) sc_l_path_of.nd rfl (.inl rfl) (pe_lst pa_nil))
        (pss_cons (ps_set (i := 4) sc_l_path_of.nd rfl (.inl rfl) (pe_lit _ lit_109_97_100_101))
        (pss_cons (ps_for PassesOwn.never rfl (pi_range1 (by rfl) T.z_range (pa_cons (pe_op op_mod' (pv 0) pe_int) pa_nil)) (pg_name (i := 5) sc_l_path_of.nd rfl (.inl rfl))
        (pss_cons (ps_set (i := 6) sc_l_path_of.nd rfl (.inl rfl) (pe_op op_mod' (pe_op op_add1 (pe_op op_div' (pv 0) pe_int) (pe_op op_mulL' (pe_op op_mulL' pe_int (pv 5)) (pe_op op_add1 pe_int (pe_op op_mod' (pv 0) pe_int)))) pe_int))
        (pss_one (ps_if (pt_cmpR op_lt1 (pv 6) pe_int (nomark _))
        (pss_cons (ps_set (i := 7) sc_l_path_of.nd rfl (.inl rfl) (pe_ix ix_L (pv 1) (pe_op op_mod' (pe_op op_add1 (pe_op op_div' (pv 0) pe_int) (pv 5)) (pe_callB call_lenL (by rfl) T.z_len (by decide +kernel) (pa_cons (pv 1) pa_nil))) (fun _ _ => rfl)))
        (pss_cons (ps_expr (pe_bm PySem.F.plainAttrs_list PySem.F.slot_list_append PySem.F.type_list_append mt_append (pv 3) (pa_cons (pe_tup (pa_cons (pe_lit _ lit_115_104_97_114_101) (pa_cons (pv 7) pa_nil))) pa_nil)))
        (pss_one (ps_expr (pe_bm PySem.F.plainAttrs_list PySem.F.slot_list_append PySem.F.type_list_append mt_append (pv 2) (pa_cons (pe_fn0 (ok_l_share_by T) hr (by decide) rfl (pa_cons (pv 7) (pa_cons (pe_op op_mod' (pe_op op_div' (pv 0) pe_int) pe_int) pa_nil))) pa_nil))))))
        (pss_one (ps_if (PW.pt (pw_and (pt_cmpR op_eqI (pv 6) pe_int (nomark _)) (pw_and1 (pt_cmpR op_eqI (pe_op op_mod' (pv 0) pe_int) pe_int (nomark _)))))
        (pss_cons (ps_expr (pe_bm PySem.F.plainAttrs_list PySem.F.slot_list_append PySem.F.type_list_append mt_append (pv 2) (pa_cons (pe_op op_addS (pe_lit _ lit_64) (pe_op op_mulS (pe_op op_mulS (pe_lit _ lit_115) pe_int) (pe_op op_mod' (pe_op op_div' (pv 0) pe_int) pe_int))) pa_nil)))
        (pss_one (ps_set (i := 4) sc_l_path_of.nd rfl (.inl rfl) (pe_ifExp (pt_cmpR op_eqS (pv 4) (pe_lit _ lit_109_97_100_101) (nomark _)) (pe_lit _ lit_115_104_97_114_101) (pv 4)))))
        (pss_one (ps_if (PW.pt (pw_and (pt_cmpR op_eqI (pv 6) pe_int (nomark _)) (pw_and1 (pt_cmpR op_eqI (pe_op op_mod' (pv 0) pe_int) pe_int (nomark _)))))
        (pss_cons (ps_expr (pe_bm PySem.F.plainAttrs_list PySem.F.slot_list_append PySem.F.type_list_append mt_append (pv 2) (pa_cons (pe_ix ix_L (pe_lst (pa_cons (pe_lit _ lit_126) (pa_cons (pe_lit _ lit_97_126_57_52) (pa_cons (pe_lit _ lit_64_126_49) pa_nil)))) (pe_op op_mod' (pe_op op_div' (pv 0) pe_int) pe_int) (fun _ _ => rfl)) pa_nil)))
        (pss_one (ps_set (i := 4) sc_l_path_of.nd rfl (.inl rfl) (pe_lit _ lit_101_115_99_97_112_101))))
        (pss_cons (ps_expr (pe_bm PySem.F.plainAttrs_list PySem.F.slot_list_append PySem.F.type_list_append mt_append (pv 2) (pa_cons (pe_ix ix_L (pe_lst (pa_cons (pe_lit _ lit_nil) (pa_cons (pe_lit _ lit_46_46) (pa_cons (pe_lit _ lit_97) (pa_cons (pe_lit _ lit_46_46_46) pa_nil))))) (pe_op op_mod' (pv 6) pe_int) (fun _ _ => rfl)) pa_nil)))
        (pss_one (ps_expr (pe_bm PySem.F.plainAttrs_list PySem.F.slot_list_extend PySem.F.type_list_extend mt_extend (pv 3) (pa_cons (pe_ix ix_L (pe_lst (pa_cons (pe_lst pa_nil) (pa_cons (pe_lst (pa_cons (pe_tup (pa_cons (pe_lit _ lit_117_112) pa_nil)) pa_nil)) (pa_cons (pe_lst (pa_cons (pe_tup (pa_cons (pe_lit _ lit_110_97_109_101) (pa_cons (pe_lit _ lit_97) pa_nil))) pa_nil)) (pa_cons (pe_lst (pa_cons (pe_tup (pa_cons (pe_lit _ lit_110_97_109_101) (pa_cons (pe_lit _ lit_46_46_46) pa_nil))) pa_nil)) pa_nil))))) (pe_op op_mod' (pv 6) pe_int) (fun _ _ => rfl)) pa_nil)))))))))))))
        (pss_cons (ps_set (i := 8) sc_l_path_of.nd rfl (.inl rfl) (pe_bm PySem.F.plainAttrs_str PySem.F.slot_str_join PySem.F.type_str_join mt_joinS (pe_lit _ lit_47) (pa_cons (pv 2) pa_nil)))
        (C8.pss_cut (ps_if (pt_cmpR op_eqS (pe_slice sl_S (pv 8) po_none (po_some pe_int)) (pe_lit _ lit_47) (nomark _))
        (pss_one (ps_set (i := 3) sc_l_path_of.nd rfl (.inl rfl) (pe_op op_cat (pe_lst (pa_cons (pe_tup (pa_cons (pe_lit _ lit_114_111_111_116) pa_nil)) pa_nil)) (pv 3))))
        pss_nil)
        (pss_one (ps_ret (pe_tup (pa_cons (pv 8) (pa_cons (pv 3) (pa_cons (pv 4) pa_nil))))))))))))
  exact Fn.of F hm hb G
theorem ok_p_gone (T : Txt K mg C) : Fn P w K mg base CX0 1 "gone" (sp_p_gone K C) := by
  obtain ⟨f, fd, F, hm, hb⟩ := T.F_p_gone
  have G : FnOk P w K mg base CX0 1 f fd ["place", "step", "spots"] (sp_p_gone K C) := by
    refine F.ok sc_p_gone (fun vs H Q E h => ?_) (fun cdv A outer s H vs Q E hr h => ?_)
    · exact len_p_gone h
    · skip
      have hu := hu_of hr
      refine ⟨t_p_gone K C E, ?_, rd_p_gone h⟩
      exact (pss_cons (ps_if (pt_cmpR op_eqS (pe_ix ix_T (pv 1) pe_int (fun _ _ => rfl)) (pe_lit _ lit_114_111_111_116) (nomark _))
        (pss_one (ps_ret (pe_lst pa_nil)))
        pss_nil)
        (pss_cons (ps_if (pt_cmpR op_eqS (pe_ix ix_T (pv 1) pe_int (fun _ _ => rfl)) (pe_lit _ lit_117_112) (nomark _))
        (pss_one (ps_ret (pe_slice sl_L (pv 0) po_none (po_some (pe_un un_neg pe_int)))))
        pss_nil)
        (pss_cons (ps_if (pt_cmpR op_eqS (pe_ix ix_T (pv 1) pe_int (fun _ _ => rfl)) (pe_lit _ lit_115_104_97_114_101) (nomark _))
        (pss_one (ps_ret (pe_callTy call_listL (by rfl) T.z_list (by decide +kernel) (pa_cons (pe_dget hu (pv 2) (pe_ix ix_T (pv 1) pe_int (fun _ _ => rfl)) (fun _ _ => rfl)) pa_nil))))
        pss_nil)
        (pss_one (ps_ret (pe_op op_cat (pv 0) (pe_lst (pa_cons (pe_ix ix_T (pv 1) pe_int (fun _ _ => rfl)) pa_nil))))))))
  exact Fn.of F hm hb G
theorem ok_p_wanted (T : Txt K mg C) : Fn P w K mg base CX0 1 "wanted" (sp_p_wanted K C) := by
  obtain ⟨f, fd, F, hm, hb⟩ := T.F_p_wanted
  have G : FnOk P w K mg base CX0 1 f fd ["steps"] (sp_p_wanted K C) := by
    refine F.ok sc_p_wanted (fun vs H Q E h => ?_) (fun cdv A outer s H vs Q E hr h => ?_)
    · exact len_p_wanted h
    · skip
      have hu := hu_of hr
      refine ⟨t_p_wanted K C E, ?_, rd_p_wanted h⟩
      exact (pss_one (ps_ret (pe_lc (own := [("step", 1)]) (g := gName 1) (tt := tTest (tOp qEqS (tOp (qIxT K) (tVar 1) (tC (.int 0))) (tC (vS [115, 104, 97, 114, 101])))) rfl sc_p_wanted.nd (pi_list (pv 0)) (blkOk_by (N := ["steps", "step"]) (own := [("step", 1)]) (sc := defScope s_p_wanted) (by decide +kernel)) (fun _ _ _ _ _ => (pg_name (i := 1) sc_p_wanted.nd rfl (Or.inl rfl))) (fun _ _ _ _ _ => (pts_one (pt_cmpR op_eqS (pe_ix ix_T (pv 1) pe_int (fun _ _ => rfl)) (pe_lit _ lit_115_104_97_114_101) (nomark _)))) (fun _ _ _ _ _ => (pe_ix ix_T (pv 1) pe_int (fun _ _ => rfl))))))
  exact Fn.of F hm hb G
theorem ok_p_settled (T : Txt K mg C) : Fn P w K mg base (L2.CX P w) 2 "settled" (sp_p_settled K C) := by
  obtain ⟨f, fd, F, hm, hb⟩ := T.F_p_settled
  have G : FnOk P w K mg base (L2.CX P w) 2 f fd ["rows"] (sp_p_settled K C) := by
    refine F.okX sc_p_settled (fun vs H Q E h => ?_) (fun cdv A outer s H vs Q E hr h => ?_)
    · exact len_p_settled h
    · skip
      have hu := hu_of hr
      refine ⟨t_p_settled K C E, ?_, rd_p_settled h⟩
      exact (pss_cons (ps_set (i := 1) sc_p_settled.nd rfl (.inr rfl) pe_dnewK)
        (pss_cons (ps_set (i := 2) sc_p_settled.nd rfl (.inl rfl) (pe_callTy (call_listDS rfl) (by rfl) T.z_list (by decide +kernel) (pa_cons (pv 0) pa_nil)))
        (pss_cons (ps_while (passes_of rfl) (pt_cmpR op_gt1 (pe_callB call_lenL (by rfl) T.z_len (by decide +kernel) (pa_cons (pv 2) pa_nil)) pe_int (nomark _))
        (pss_cons (ps_set (i := 3) sc_p_settled.nd rfl (.inl rfl) (pe_lst pa_nil))
        (pss_cons (ps_for (passes_of rfl) rfl (pi_list (pv 2)) (pg_name (i := 4) sc_p_settled.nd rfl (.inl rfl))
        (pss_one (ps_if (pt_val (pe_callB (cr_all rfl) (by rfl) T.z_all (by decide +kernel) (pa_cons (pe_lc (own := [("share", 7)]) (g := gName 7) (tt := tYes) rfl sc_p_settled.nd (pi_list (pe_fn0 (ok_p_wanted T) hr (by decide) rfl (pa_cons (pe_dget hu (pv 0) (pv 4) (fun _ _ => rfl)) pa_nil))) (blkOk_by (N := ["rows", "spots", "waiting", "left", "name", "place", "step", "share"]) (own := [("share", 7)]) (sc := defScope s_p_settled) (by decide +kernel)) (fun _ _ _ _ _ => (pg_name (i := 7) sc_p_settled.nd rfl (Or.inl rfl))) (fun _ _ _ _ _ => pts_nil) (fun _ _ _ _ _ => (pe_cmp (pc_din hu (pv 7) (pv 1)) rfl))) pa_nil)))
        (pss_cons (ps_set (i := 5) sc_p_settled.nd rfl (.inl rfl) (pe_lst pa_nil))
        (pss_cons (ps_for (passes_of rfl) rfl (pi_list (pe_dget hu (pv 0) (pv 4) (fun _ _ => rfl))) (pg_name (i := 6) sc_p_settled.nd rfl (.inl rfl))
        (pss_one (ps_set (i := 5) sc_p_settled.nd rfl (.inl rfl) (pe_fn0 (ok_p_gone T) hr (by decide) rfl (pa_cons (pv 5) (pa_cons (pv 6) (pa_cons (pv 1) pa_nil)))))))
        (pss_one (ps_dput hu (pv 1) (pv 4) (pv 5) rfl))))
        (pss_one (ps_expr (pe_bm PySem.F.plainAttrs_list PySem.F.slot_list_append PySem.F.type_list_append mt_append (pv 3) (pa_cons (pv 4) pa_nil)))))))
        (pss_cons (ps_if (pt_cmpR op_eqI (pe_callB call_lenL (by rfl) T.z_len (by decide +kernel) (pa_cons (pv 3) pa_nil)) (pe_callB call_lenL (by rfl) T.z_len (by decide +kernel) (pa_cons (pv 2) pa_nil)) (nomark _))
        (pss_one (ps_raise rfl (takes_of rfl rfl rfl rfl) (pmk_own PySem.F.excBase_ValueError T.x_Ring.xi T.x_Ring.g T.x_Ring.k (raises_own T.x_Ring.b T.x_Ring.t) (by rfl))))
        pss_nil)
        (pss_one (ps_set (i := 2) sc_p_settled.nd rfl (.inl rfl) (pv 3)))))))
        (pss_one (ps_ret (pv 1))))))
  exact Fn.of F hm hb G
theorem ok_p_sign_of (T : Txt K mg C) : Fn P w K mg base (L2.CX P w) 1 "sign_of" (sp_p_sign_of K C) := by
  obtain ⟨f, fd, F, hm, hb⟩ := T.F_p_sign_of
  have G : FnOk P w K mg base (L2.CX P w) 1 f fd ["figures"] (sp_p_sign_of K C) := by
    refine F.okX sc_p_sign_of (fun vs H Q E h => ?_) (fun cdv A outer s H vs Q E hr h => ?_)
    · exact len_p_sign_of h
    · skip
      have hu := hu_of hr
      refine ⟨t_p_sign_of K C E, ?_, rd_p_sign_of h⟩
      exact (pss_cons (ps_if (PW.pt (pw_or (pt_cmpR op_lt1 (pe_callB call_lenS (by rfl) T.z_len (by decide +kernel) (pa_cons (pv 0) pa_nil)) pe_int (nomark _)) (pw_or (pt_cmpR op_niS' (pe_ix ix_S (pv 0) pe_int (fun _ _ => rfl)) (pe_gl T.g_FIGURES rfl) rfl) (pw_or1 (pt_cmpR op_niS' (pe_ix ix_S (pv 0) pe_int (fun _ _ => rfl)) (pe_gl T.g_FIGURES rfl) rfl)))))
        (pss_one (ps_raise rfl (takes_of rfl rfl rfl rfl) (pmk_own PySem.F.excBase_ValueError T.x_BadEscape.xi T.x_BadEscape.g T.x_BadEscape.k (raises_own T.x_BadEscape.b T.x_BadEscape.t) (by rfl))))
        pss_nil)
        (pss_cons (ps_set (i := 1) sc_p_sign_of.nd rfl (.inl rfl) (pe_op op_add1 (pe_op op_mulL' pe_int (pe_bm PySem.F.plainAttrs_str PySem.F.slot_str_index PySem.F.type_str_index mt_ixFigs (pe_gl T.g_FIGURES rfl) (pa_cons (pe_ix ix_S (pv 0) pe_int (fun _ _ => rfl)) pa_nil))) (pe_bm PySem.F.plainAttrs_str PySem.F.slot_str_index PySem.F.type_str_index mt_ixFigs (pe_gl T.g_FIGURES rfl) (pa_cons (pe_ix ix_S (pv 0) pe_int (fun _ _ => rfl)) pa_nil))))
        (pss_cons (ps_if (pt_cmpR op_ge1 (pv 1) (pe_callB call_lenS (by rfl) T.z_len (by decide +kernel) (pa_cons (pe_gl T.g_SIGNS rfl) pa_nil)) (nomark _))
        (pss_one (ps_raise rfl (takes_of rfl rfl rfl rfl) (pmk_own PySem.F.excBase_ValueError T.x_BadEscape.xi T.x_BadEscape.g T.x_BadEscape.k (raises_own T.x_BadEscape.b T.x_BadEscape.t) (by rfl))))
        pss_nil)
        (pss_one (ps_ret (pe_ix ix_S (pe_gl T.g_SIGNS rfl) (pv 1) (fun _ _ => rfl)))))))
  exact Fn.of F hm hb G
theorem ok_p_name_of (T : Txt K mg C) : Fn P w K mg base (L2.CX P w) 2 "name_of" (sp_p_name_of K C) := by
  obtain ⟨f, fd, F, hm, hb⟩ := T.F_p_name_of
  have G : FnOk P w K mg base (L2.CX P w) 2 f fd ["part"] (sp_p_name_of K C) := by
    refine F.okX sc_p_name_of (fun vs H Q E h => ?_) (fun cdv A outer s H vs Q E hr h => ?_)
    · exact len_p_name_of h
    · skip
      have hu := hu_of hr
      refine ⟨t_p_name_of K C E, ?_, rd_p_name_of h⟩
      exact (pss_cons (ps_set (i := 1) sc_p_name_of.nd rfl (.inl rfl) (pe_lit _ lit_nil))
        (pss_cons (ps_set (i := 2) sc_p_name_of.nd rfl (.inl rfl) pe_int)
        (pss_cons (ps_while (passes_of rfl) (pt_cmpR op_lt1 (pv 2) (pe_callB call_lenS (by rfl) T.z_len (by decide +kernel) (pa_cons (pv 0) pa_nil)) (nomark _))
        (pss_one (ps_if (pt_cmpR op_eqS (pe_ix ix_S (pv 0) (pv 2) (fun _ _ => rfl)) (pe_lit _ lit_126) (nomark _))
        (pss_cons (ps_set (i := 1) sc_p_name_of.nd rfl (.inl rfl) (pe_op op_addS (pv 1) (pe_fnX (ok_p_sign_of T) hr (by decide) (takes_of rfl rfl rfl rfl) rfl (pa_cons (pe_slice sl_S (pv 0) (po_some (pe_op op_add1 (pv 2) pe_int)) (po_some (pe_op op_add1 (pv 2) pe_int))) pa_nil))))
        (pss_one (ps_set (i := 2) sc_p_name_of.nd rfl (.inl rfl) (pe_op op_add1 (pv 2) pe_int))))
        (pss_cons (ps_set (i := 1) sc_p_name_of.nd rfl (.inl rfl) (pe_op op_addS (pv 1) (pe_ix ix_S (pv 0) (pv 2) (fun _ _ => rfl))))
        (pss_one (ps_set (i := 2) sc_p_name_of.nd rfl (.inl rfl) (pe_op op_add1 (pv 2) pe_int)))))))
        (pss_one (ps_ret (pv 1))))))
  exact Fn.of F hm hb G
theorem ok_p_step_of (T : Txt K mg C) : Fn P w K mg base (L2.CX P w) 3 "step_of" (sp_p_step_of K C) := by
  obtain ⟨f, fd, F, hm, hb⟩ := T.F_p_step_of
  have G : FnOk P w K mg base (L2.CX P w) 3 f fd ["part"] (sp_p_step_of K C) := by
    refine F.okX sc_p_step_of (fun vs H Q E h => ?_) (fun cdv A outer s H vs Q E hr h => ?_)
    · exact len_p_step_of h
    · skip
      have hu := hu_of hr
      refine ⟨t_p_step_of K C E, ?_, rd_p_step_of h⟩
      exact (pss_cons (ps_if (PW.pt (pw_or (pt_cmpR op_eqS (pv 0) (pe_lit _ lit_nil) (nomark _)) (pw_or1 (pt_cmpR op_eqS (pv 0) (pe_lit _ lit_46) (nomark _)))))
        (pss_one (ps_ret (pe_lst pa_nil)))
        pss_nil)
        (pss_cons (ps_if (pt_cmpR op_eqS (pv 0) (pe_lit _ lit_46_46) (nomark _))
        (pss_one (ps_ret (pe_lst (pa_cons (pe_tup (pa_cons (pe_lit _ lit_117_112) pa_nil)) pa_nil))))
        pss_nil)
        (pss_cons (ps_if (pt_cmpR op_eqS (pe_ix ix_S (pv 0) pe_int (fun _ _ => rfl)) (pe_lit _ lit_64) (nomark _))
        (pss_one (ps_ret (pe_lst (pa_cons (pe_tup (pa_cons (pe_lit _ lit_115_104_97_114_101) (pa_cons (pe_fnX (ok_p_name_of T) hr (by decide) (takes_of rfl rfl rfl rfl) rfl (pa_cons (pe_slice sl_S (pv 0) (po_some pe_int) po_none) pa_nil)) pa_nil))) pa_nil))))
        pss_nil)
        (pss_one (ps_ret (pe_lst (pa_cons (pe_tup (pa_cons (pe_lit _ lit_110_97_109_101) (pa_cons (pe_fnX (ok_p_name_of T) hr (by decide) (takes_of rfl rfl rfl rfl) rfl (pa_cons (pv 0) pa_nil)) pa_nil))) pa_nil)))))))
  exact Fn.of F hm hb G
theorem ok_p_steps_of (T : Txt K mg C) : Fn P w K mg base (L2.CX P w) 4 "steps_of" (sp_p_steps_of K C) := by
  obtain ⟨f, fd, F, hm, hb⟩ := T.F_p_steps_of
  have G : FnOk P w K mg base (L2.CX P w) 4 f fd ["path"] (sp_p_steps_of K C) := by
    refine F.okX sc_p_steps_of (fun vs H Q E h => ?_) (fun cdv A outer s H vs Q E hr h => ?_)
    · exact len_p_steps_of h
    · skip
      have hu := hu_of hr
      refine ⟨t_p_steps_of K C E, ?_, rd_p_steps_of h⟩
      exact (pss_cons (ps_set (i := 1) sc_p_steps_of.nd rfl (.inl rfl) (pe_lst pa_nil))
        (C8.pss_cut (ps_if (pt_cmpR op_eqS (pe_slice sl_S (pv 0) po_none (po_some pe_int)) (pe_lit _ lit_47) (nomark _))
        (pss_one (ps_expr (pe_bm PySem.F.plainAttrs_list PySem.F.slot_list_append PySem.F.type_list_append mt_append (pv 1) (pa_cons (pe_tup (pa_cons (pe_lit _ lit_114_111_111_116) pa_nil)) pa_nil))))
        pss_nil)
        (pss_cons (ps_for (passes_of rfl) rfl (pi_list (pe_bm PySem.F.plainAttrs_str PySem.F.slot_str_split PySem.F.type_str_split mt_splitS (pv 0) (pa_cons (pe_lit _ lit_47) pa_nil))) (pg_name (i := 2) sc_p_steps_of.nd rfl (.inl rfl))
        (pss_one (ps_expr (pe_bm PySem.F.plainAttrs_list PySem.F.slot_list_extend PySem.F.type_list_extend mt_extend (pv 1) (pa_cons (pe_fnX (ok_p_step_of T) hr (by decide) (takes_of rfl rfl rfl rfl) rfl (pa_cons (pv 2) pa_nil)) pa_nil)))))
        (pss_one (ps_ret (pv 1))))))
  exact Fn.of F hm hb G
theorem ok_p_Shares_init (T : Txt K mg C) : MkOk P w K mg base (L2.CX P w) 5 C.Sh (sp_p_Shares_init K C) := by
  obtain ⟨f, fd, F, hi, hfn, hb⟩ := T.F_p_Shares_init
  have G : FnOk P w K mg base (L2.CX P w) 5 f fd ["self", "table"] (sp_p_Shares_init K C) := by
    refine F.okX sc_p_Shares_init (fun vs H Q E h => ?_) (fun cdv A outer s H vs Q E hr h => ?_)
    · exact len_p_Shares_init h
    · skip
      have hu := hu_of hr
      refine ⟨t_p_Shares_init K C E, ?_, rd_p_Shares_init ⟨T.cl_Sh, T.na_order, T.na_spots⟩ h⟩
      exact (pss_cons (ps_set (i := 2) sc_p_Shares_init.nd rfl (.inl rfl) pe_dnewK)
        (pss_cons (ps_lock (ps_for (passes_of rfl) rfl (pi_items (pv 1)) (pg_tup rfl (pgs_cons (pg_name (i := 3) sc_p_Shares_init.nd rfl (.inl rfl)) (pgs_cons (pg_name (i := 4) sc_p_Shares_init.nd rfl (.inl rfl)) pgs_nil)))
        (pss_one (ps_dput hu (pv 2) (pv 3) (pe_fnX (ok_p_steps_of T) hr (by decide) (takes_of rfl rfl rfl rfl) rfl (pa_cons (pv 4) pa_nil)) rfl))))
        (pss_cons (ps_lock (ps_for (passes_of rfl) rfl (pi_keys (pv 2)) (pg_name (i := 3) sc_p_Shares_init.nd rfl (.inl rfl))
        (pss_one (ps_for (passes_of rfl) rfl (pi_list (pe_fn0 (ok_p_wanted T) hr (by decide) rfl (pa_cons (pe_dget hu (pv 2) (pv 3) (fun _ _ => rfl)) pa_nil))) (pg_name (i := 5) sc_p_Shares_init.nd rfl (.inl rfl))
        (pss_one (ps_if (pt_cmp (pc_dnotin hu (pv 5) (pv 2)) rfl)
        (pss_one (ps_raise rfl (takes_of rfl rfl rfl rfl) (pmk_own PySem.F.excBase_ValueError T.x_NoShare.xi T.x_NoShare.g T.x_NoShare.k (raises_own T.x_NoShare.b T.x_NoShare.t) (by rfl))))
        pss_nil))))))
        (pss_cons (ps_fld (pv 0) (pe_callTy (call_listDS rfl) (by rfl) T.z_list (by decide +kernel) (pa_cons (pv 2) pa_nil)) rfl)
        (pss_one (ps_fld (pv 0) (pe_fnX (ok_p_settled T) hr (by decide) (takes_of rfl rfl rfl rfl) rfl (pa_cons (pv 2) pa_nil)) rfl))))))
  exact ⟨f, fd, _, G, hi, hfn, hb⟩
theorem ok_l_said (T : Txt K mg C) : Fn P w K mg base CX0 7 "_law_said" (sp_l_said K C) := by
  obtain ⟨f, fd, F, hm, hb⟩ := T.F_l_said
  have G : FnOk P w K mg base CX0 7 f fd ["_law_table"] (sp_l_said K C) := by
    refine F.ok sc_l_said (fun vs H Q E h => ?_) (fun cdv A outer s H vs Q E hr h => ?_)
    · exact len_l_said h
    · skip
      have hu := hu_of hr
      refine ⟨t_l_said K C E, ?_, rd_l_said T.fx_FxV h⟩
      exact (pss_cons (ps_tryA (i := 1) rfl rfl sc_l_said.nd rfl rfl (names_of rfl T.x_PathError.g) takes0 (fun W q xe tk pn => (pss_one (ps_expr (pe_mkX (ok_p_Shares_init T) T.mk_Sh hr (by decide) tk rfl T.g_Shares (pa_cons (pv 0) pa_nil))))) (fun a oe cls d q hz hf => (pss_cons (ps_set (i := 2) sc_l_said.nd rfl (.inl rfl) (pe_op op_addS (pe_op op_mulS (pe_lit _ lit_101_115_99_97_112_101_32) (pe_callTy call_intB (by rfl) T.z_int (by decide +kernel) (pa_cons (pe_callB (call_isE1 hz hf) (by rfl) T.z_isinstance (by decide +kernel) (pa_cons (pv 1) (pa_cons (pe_gl T.g_BadEscape rfl) pa_nil))) pa_nil))) (pe_op op_mulS (pe_lit _ lit_115_104_97_114_101_32) (pe_callTy call_intB (by rfl) T.z_int (by decide +kernel) (pa_cons (pe_callB (call_isE1 hz hf) (by rfl) T.z_isinstance (by decide +kernel) (pa_cons (pv 1) (pa_cons (pe_gl T.g_NoShare rfl) pa_nil))) pa_nil)))))
        (pss_cons (ps_set (i := 2) sc_l_said.nd rfl (.inl rfl) (pe_op op_addS (pe_op op_addS (pv 2) (pe_op op_mulS (pe_lit _ lit_114_105_110_103_32) (pe_callTy call_intB (by rfl) T.z_int (by decide +kernel) (pa_cons (pe_callB (call_isE1 hz hf) (by rfl) T.z_isinstance (by decide +kernel) (pa_cons (pv 1) (pa_cons (pe_gl T.g_Ring rfl) pa_nil))) pa_nil)))) (pe_op op_mulS (pe_lit _ lit_118_97_108_117_101) (pe_callTy call_intB (by rfl) T.z_int (by decide +kernel) (pa_cons (pe_callB (call_isE1 hz hf) (by rfl) T.z_isinstance (by decide +kernel) (pa_cons (pv 1) (pa_cons (pe_bltn (by rfl) T.z_ValueError (by decide +kernel) rfl) pa_nil))) pa_nil)))))
        (pss_one (ps_ret (pv 2)))))))
        (pss_one (ps_ret (pe_lit _ lit_109_97_100_101))))
  exact Fn.of F hm hb G
theorem ok_l_walk_k06 (T : Txt K mg C) : Fn P w K mg base CX0 1 "_law_walk" (sp_l_walk_k06 K C) := by
  obtain ⟨f, fd, F, hm, hb⟩ := T.F_l_walk_k06
  have G : FnOk P w K mg base CX0 1 f fd ["_law_place", "_law_steps", "_law_places_here"] (sp_l_walk_k06 K C) := by
    refine F.ok sc_l_walk_k06 (fun vs H Q E h => ?_) (fun cdv A outer s H vs Q E hr h => ?_)
    · exact len_l_walk_k06 h
    · skip
      have hu := hu_of hr
      refine ⟨t_l_walk_k06 K C E, ?_, rd_l_walk_k06 h⟩
      exact (pss_cons (ps_set (i := 0) sc_l_walk_k06.nd rfl (.inl rfl) (pe_callTy call_listL (by rfl) T.z_list (by decide +kernel) (pa_cons (pv 0) pa_nil)))
        (pss_cons (ps_for PassesOwn.never rfl (pi_list (pv 1)) (pg_name (i := 3) sc_l_walk_k06.nd rfl (.inl rfl))
        (pss_one (ps_if (pt_cmpR op_eqS (pe_ix ix_T (pv 3) pe_int (fun _ _ => rfl)) (pe_lit _ lit_114_111_111_116) (nomark _))
        (pss_one (ps_set (i := 0) sc_l_walk_k06.nd rfl (.inl rfl) (pe_lst pa_nil)))
        (pss_one (ps_if (pt_cmpR op_eqS (pe_ix ix_T (pv 3) pe_int (fun _ _ => rfl)) (pe_lit _ lit_117_112) (nomark _))
        (pss_one (ps_set (i := 0) sc_l_walk_k06.nd rfl (.inl rfl) (pe_slice sl_L (pv 0) po_none (po_some (pe_un un_neg pe_int)))))
        (pss_one (ps_if (pt_cmpR op_eqS (pe_ix ix_T (pv 3) pe_int (fun _ _ => rfl)) (pe_lit _ lit_115_104_97_114_101) (nomark _))
        (pss_one (ps_set (i := 0) sc_l_walk_k06.nd rfl (.inl rfl) (pe_callTy call_listL (by rfl) T.z_list (by decide +kernel) (pa_cons (pe_dget hu (pv 2) (pe_ix ix_T (pv 3) pe_int (fun _ _ => rfl)) (fun _ _ => rfl)) pa_nil))))
        (pss_one (ps_set (i := 0) sc_l_walk_k06.nd rfl (.inl rfl) (pe_op op_cat (pv 0) (pe_lst (pa_cons (pe_ix ix_T (pv 3) pe_int (fun _ _ => rfl)) pa_nil))))))))))))
        (pss_one (ps_ret (pv 0)))))
  exact Fn.of F hm hb G
theorem ok_l_places (T : Txt K mg C) : Fn P w K mg base CX0 2 "_law_places" (sp_l_places K C) := by
  obtain ⟨f, fd, F, hm, hb⟩ := T.F_l_places
  have G : FnOk P w K mg base CX0 2 f fd ["_law_rows"] (sp_l_places K C) := by
    refine F.ok sc_l_places (fun vs H Q E h => ?_) (fun cdv A outer s H vs Q E hr h => ?_)
    · exact len_l_places h
    · skip
      have hu := hu_of hr
      refine ⟨t_l_places K C E, ?_, rd_l_places h⟩
      exact (pss_cons (ps_set (i := 1) sc_l_places.nd rfl (.inr rfl) pe_dnewK)
        (pss_cons (ps_for PassesOwn.never rfl (pi_range1 (by rfl) T.z_range (pa_cons (pe_callB call_lenD (by rfl) T.z_len (by decide +kernel) (pa_cons (pv 0) pa_nil)) pa_nil)) (pg_name (i := 2) sc_l_places.nd rfl (.inl rfl))
        (pss_one (ps_lock (ps_for PassesOwn.never rfl (pi_keys (pv 0)) (pg_name (i := 3) sc_l_places.nd rfl (.inl rfl))
        (pss_one (ps_if (pt_val (pe_callB (cr_all rfl) (by rfl) T.z_all (by decide +kernel) (pa_cons (pe_lc (own := [("_law_step", 4)]) (g := gName 4) (tt := tYes) rfl sc_l_places.nd (pi_list (pe_dget hu (pv 0) (pv 3) (fun _ _ => rfl))) (blkOk_by (N := ["_law_rows", "_law_places_here", "_law_turn", "_law_name", "_law_step"]) (own := [("_law_step", 4)]) (sc := defScope s_l_places) (by decide +kernel)) (fun _ _ _ _ _ => (pg_name (i := 4) sc_l_places.nd rfl (Or.inl rfl))) (fun _ _ _ _ _ => pts_nil) (fun _ _ _ _ _ => (pe_or (pe_cmpR op_neS (pe_ix ix_T (pv 4) pe_int (fun _ _ => rfl)) (pe_lit _ lit_115_104_97_114_101) (nomark _)) (pe_one (pe_cmp (pc_din hu (pe_ix ix_T (pv 4) pe_int (fun _ _ => rfl)) (pv 1)) rfl))))) pa_nil)))
        (pss_one (ps_dput hu (pv 1) (pv 3) (pe_fn0 (ok_l_walk_k06 T) hr (by decide) rfl (pa_cons (pe_lst pa_nil) (pa_cons (pe_dget hu (pv 0) (pv 3) (fun _ _ => rfl)) (pa_cons (pv 1) pa_nil)))) rfl))
        pss_nil))))))
        (pss_one (ps_ret (pv 1)))))
  exact Fn.of F hm hb G
theorem ok_p_Shares_place (T : Txt K mg C) : MtOk P w K mg base (L2.CX P w) 1 C.Sh "place" (sp_p_Shares_place K C) := by
  obtain ⟨f, fd, F, hm, hb⟩ := T.F_p_Shares_place
  have G : FnOk P w K mg base (L2.CX P w) 1 f fd ["self", "name"] (sp_p_Shares_place K C) := by
    refine F.okX sc_p_Shares_place (fun vs H Q E h => ?_) (fun cdv A outer s H vs Q E hr h => ?_)
    · exact len_p_Shares_place h
    · skip
      have hu := hu_of hr
      refine ⟨t_p_Shares_place K C E, ?_, rd_p_Shares_place ⟨T.cl_Sh, T.na_order, T.na_spots⟩ h⟩
      exact (pss_cons (ps_if (pt_cmp (pc_dnotin hu (pv 1) (pe_fld (pv 0) rfl)) rfl)
        (pss_one (ps_raise rfl (takes_of rfl rfl rfl rfl) (pmk_own PySem.F.excBase_ValueError T.x_NoShare.xi T.x_NoShare.g T.x_NoShare.k (raises_own T.x_NoShare.b T.x_NoShare.t) (by rfl))))
        pss_nil)
        (pss_one (ps_ret (pe_callTy call_listL (by rfl) T.z_list (by decide +kernel) (pa_cons (pe_dget hu (pe_fld (pv 0) rfl) (pv 1) (fun _ _ => rfl)) pa_nil)))))
  exact ⟨f, fd, _, G, hm, hb⟩
theorem ok_l_stand (T : Txt K mg C) : Fn P w K mg base CX0 7 "_law_stand" (sp_l_stand K C) := by
  obtain ⟨f, fd, F, hm, hb⟩ := T.F_l_stand
  have G : FnOk P w K mg base CX0 7 f fd ["_law_table", "_law_rows"] (sp_l_stand K C) := by
    refine F.ok sc_l_stand (fun vs H Q E h => ?_) (fun cdv A outer s H vs Q E hr h => ?_)
    · exact len_l_stand h
    · skip
      have hu := hu_of hr
      refine ⟨t_l_stand K C E, ?_, rd_l_stand h⟩
      exact (pss_cons (ps_set (i := 2) sc_l_stand.nd rfl (.inl rfl) (pe_mkN (ok_p_Shares_init T) T.mk_Sh hr (by decide) rfl T.g_Shares (pa_cons (pv 0) pa_nil)))
        (pss_cons (ps_set (i := 3) sc_l_stand.nd rfl (.inl rfl) (pe_fn0 (ok_l_places T) hr (by decide) rfl (pa_cons (pv 1) pa_nil)))
        (pss_cons (ps_lock (ps_for PassesOwn.never rfl (pi_keys (pv 1)) (pg_name (i := 4) sc_l_stand.nd rfl (.inl rfl))
        (pss_cons (ps_set (i := 5) sc_l_stand.nd rfl (.inl rfl) (pe_mtN (ok_p_Shares_place T) T.cl_Sh hr (by decide) (pv 2) (pa_cons (pv 4) pa_nil)))
        (pss_one (ps_if (PW.pt (pw_or (pt_not (pt_val (pe_callB call_isi (by rfl) T.z_isinstance (by decide +kernel) (pa_cons (pv 5) (pa_cons (pe_bltn (by rfl) T.z_list (by decide +kernel) rfl) pa_nil))))) (pw_or1 (pt_cmpR (op_neD hr.units) (pv 5) (pe_dget hu (pv 3) (pv 4) (fun _ _ => rfl)) (nomark _)))))
        (pss_one (ps_ret pe_bl))
        pss_nil)))))
        (pss_one (ps_ret pe_bl)))))
  exact Fn.of F hm hb G
theorem ok_l_rings (T : Txt K mg C) : Fn P w K mg base CX0 1 "_law_rings" (sp_l_rings K C) := by
  obtain ⟨f, fd, F, hm, hb⟩ := T.F_l_rings
  have G : FnOk P w K mg base CX0 1 f fd ["_law_wants"] (sp_l_rings K C) := by
    refine F.ok sc_l_rings (fun vs H Q E h => ?_) (fun cdv A outer s H vs Q E hr h => ?_)
    · exact len_l_rings h
    · skip
      have hu := hu_of hr
      refine ⟨t_l_rings K C E, ?_, rd_l_rings h⟩
      exact (pss_cons (ps_set (i := 1) sc_l_rings.nd rfl (.inr rfl) pe_dnewK)
        (pss_cons (ps_lock (ps_for PassesOwn.never rfl (pi_keys (pv 0)) (pg_name (i := 2) sc_l_rings.nd rfl (.inl rfl))
        (pss_one (ps_dput hu (pv 1) (pv 2) (pe_callTy (call_dictP rfl) (by rfl) T.z_dict (by decide +kernel) (pa_cons (pe_lc (own := [("_law_share", 3)]) (g := gName 3) (tt := tYes) rfl sc_l_rings.nd (pi_list (pe_dget hu (pv 0) (pv 2) (fun _ _ => rfl))) (blkOk_by (N := ["_law_wants", "_law_reach", "_law_name", "_law_share", "_law_turn", "_law_other"]) (own := [("_law_share", 3)]) (sc := defScope s_l_rings) (by decide +kernel)) (fun _ _ _ _ _ => (pg_name (i := 3) sc_l_rings.nd rfl (Or.inl rfl))) (fun _ _ _ _ _ => pts_nil) (fun _ _ _ _ _ => (pe_tup (pa_cons (pv 3) (pa_cons pe_bl pa_nil))))) pa_nil)) rfl))))
        (pss_cons (ps_for PassesOwn.never rfl (pi_range1 (by rfl) T.z_range (pa_cons (pe_callB call_lenD (by rfl) T.z_len (by decide +kernel) (pa_cons (pv 0) pa_nil)) pa_nil)) (pg_name (i := 4) sc_l_rings.nd rfl (.inl rfl))
        (pss_one (ps_lock (ps_for PassesOwn.never rfl (pi_keys (pv 0)) (pg_name (i := 2) sc_l_rings.nd rfl (.inl rfl))
        (pss_one (ps_for PassesOwn.never rfl (pi_list (pe_callTy (call_listDS rfl) (by rfl) T.z_list (by decide +kernel) (pa_cons (pe_dget hu (pv 1) (pv 2) (fun _ _ => rfl)) pa_nil))) (pg_name (i := 3) sc_l_rings.nd rfl (.inl rfl))
        (pss_one (ps_for PassesOwn.never rfl (pi_list (pe_dget hu (pv 0) (pv 3) (fun _ _ => rfl))) (pg_name (i := 5) sc_l_rings.nd rfl (.inl rfl))
        (pss_one (ps_dput hu (pe_dget hu (pv 1) (pv 2) (fun _ _ => rfl)) (pv 5) pe_bl rfl))))))))))
        (pss_one (ps_ret (pe_callB (cr_any rfl) (by rfl) T.z_any (by decide +kernel) (pa_cons (pe_lock (pe_lc (own := [("_law_name", 2)]) (g := gName 2) (tt := tYes) rfl sc_l_rings.nd (pi_keys (pv 0)) (blkOk_by (N := ["_law_wants", "_law_reach", "_law_name", "_law_share", "_law_turn", "_law_other"]) (own := [("_law_name", 2)]) (sc := defScope s_l_rings) (by decide +kernel)) (fun _ _ _ _ _ => (pg_name (i := 2) sc_l_rings.nd rfl (Or.inl rfl))) (fun _ _ _ _ _ => pts_nil) (fun _ _ _ _ _ => (pe_cmp (pc_din hu (pv 2) (pe_dget hu (pv 1) (pv 2) (fun _ _ => rfl))) rfl)))) pa_nil)))))))
  exact Fn.of F hm hb G
theorem ok_l_row_of_forty_k06 (T : Txt K mg C) : Fn P w K mg base CX0 1 "_law_row_of_forty" (sp_l_row_of_forty_k06 K C) := by
  obtain ⟨f, fd, F, hm, hb⟩ := T.F_l_row_of_forty_k06
  have G : FnOk P w K mg base CX0 1 f fd ["_law_ring"] (sp_l_row_of_forty_k06 K C) := by
    refine F.ok sc_l_row_of_forty_k06 (fun vs H Q E h => ?_) (fun cdv A outer s H vs Q E hr h => ?_)
    · exact len_l_row_of_forty_k06 h
    · skip
      have hu := hu_of hr
      refine ⟨t_l_row_of_forty_k06 K C E, ?_, rd_l_row_of_forty_k06 h⟩
      exact (pss_cons (ps_set (i := 1) sc_l_row_of_forty_k06.nd rfl (.inl rfl) pe_dnewK)
        (pss_cons (ps_for PassesOwn.never rfl (pi_range1 (by rfl) T.z_range (pa_cons pe_int pa_nil)) (pg_name (i := 2) sc_l_row_of_forty_k06.nd rfl (.inl rfl))
        (pss_one (ps_dput hu (pv 1) (pe_op op_addS (pe_lit _ lit_115) (pe_callTy call_strZ (by rfl) T.z_str (by decide +kernel) (pa_cons (pv 2) pa_nil))) (pe_op op_addS (pe_lit _ lit_97_47_64_115) (pe_callTy call_strZ (by rfl) T.z_str (by decide +kernel) (pa_cons (pe_op op_sub1 (pv 2) pe_int) pa_nil))) rfl)))
        (pss_cons (ps_dput hu (pv 1) (pe_lit _ lit_115_48) (pe_ix ix_L (pe_lst (pa_cons (pe_lit _ lit_47_98) (pa_cons (pe_lit _ lit_64_115_51_57) pa_nil))) (pe_callTy call_intB (by rfl) T.z_int (by decide +kernel) (pa_cons (pv 0) pa_nil)) (fun _ _ => rfl)) rfl)
        (pss_one (ps_ret (pv 1))))))
  exact Fn.of F hm hb G
theorem ok_law_k06 (T : Txt K mg C) {f : Addr} {fd : FuncData} (F : Fun K "law" "law" s_law_k06 f fd) : FnOk P w K mg base CX0 8 f fd ["_law_script"] (sp_law K C) := by
  have G : FnOk P w K mg base CX0 8 f fd ["_law_script"] (sp_law K C) := by
    refine F.ok sc_law_k06 (fun vs H Q E h => ?_) (fun cdv A outer s H vs Q E hr h => ?_)
    · exact len_law h
    · skip
      have hu := hu_of hr
      refine ⟨t_law_k06 K C E, ?_, rd_law_k06 h⟩
      exact (pss_cons (ps_set (i := 1) sc_law_k06.nd rfl (.inl rfl) (pe_fn0 (ok_l_of T) hr (by decide) rfl (pa_cons (pv 0) (pa_cons pe_int pa_nil))))
        (pss_cons (ps_if (pt_cmpR op_eqI (pe_op op_mod' (pv 1) pe_int) pe_int (nomark _))
        (pss_one (ps_ret (pe_cmpR op_eqS (pe_fn0 (ok_l_said T) hr (by decide) rfl (pa_cons (pe_fn0 (ok_l_row_of_forty_k06 T) hr (by decide) rfl (pa_cons (pe_cmpR op_eqI (pe_op op_mod' (pe_op op_div' (pv 1) pe_int) pe_int) pe_int (nomark _)) pa_nil)) pa_nil)) (pe_ix ix_L (pe_lst (pa_cons (pe_lit _ lit_109_97_100_101) (pa_cons (pe_lit _ lit_h5540) pa_nil))) (pe_op op_mod' (pe_op op_div' (pv 1) pe_int) pe_int) (fun _ _ => rfl)) (nomark _))))
        pss_nil)
        (pss_cons (ps_set (i := 2) sc_law_k06.nd rfl (.inl rfl) (pe_lst pa_nil))
        (pss_cons (ps_for PassesOwn.never rfl (pi_range1 (by rfl) T.z_range (pa_cons (pe_op op_add1 pe_int (pe_op op_mod' (pe_op op_div' (pv 1) pe_int) pe_int)) pa_nil)) (pg_name (i := 3) sc_law_k06.nd rfl (.inl rfl))
        (pss_cons (ps_set (i := 4) sc_law_k06.nd rfl (.inl rfl) (pe_fn0 (ok_l_name_by T) hr (by decide) rfl (pa_cons (pe_fn0 (ok_l_of T) hr (by decide) rfl (pa_cons (pv 0) (pa_cons (pe_op op_add1 pe_int (pv 3)) pa_nil))) pa_nil)))
        (pss_one (ps_if (pt_cmpR op_notIn_seq (pv 4) (pv 2) rfl)
        (pss_one (ps_expr (pe_bm PySem.F.plainAttrs_list PySem.F.slot_list_append PySem.F.type_list_append mt_append (pv 2) (pa_cons (pv 4) pa_nil))))
        pss_nil))))
        (pss_cons (ps_set (i := 5) sc_law_k06.nd rfl (.inl rfl) pe_dnewK)
        (pss_cons (ps_set (i := 6) sc_law_k06.nd rfl (.inl rfl) pe_dnewK)
        (pss_cons (ps_set (i := 7) sc_law_k06.nd rfl (.inl rfl) pe_dnewK)
        (pss_cons (ps_set (i := 8) sc_law_k06.nd rfl (.inl rfl) (pe_lst pa_nil))
        (pss_cons (ps_for PassesOwn.never rfl (pi_range1 (by rfl) T.z_range (pa_cons (pe_callB call_lenL (by rfl) T.z_len (by decide +kernel) (pa_cons (pv 2) pa_nil)) pa_nil)) (pg_name (i := 3) sc_law_k06.nd rfl (.inl rfl))
        (pss_cons (ps_set (i := 9) sc_law_k06.nd rfl (.inl rfl) (pe_fn0 (ok_l_path_of T) hr (by decide) rfl (pa_cons (pe_fn0 (ok_l_of T) hr (by decide) rfl (pa_cons (pv 0) (pa_cons (pe_op op_add1 pe_int (pv 3)) pa_nil))) (pa_cons (pv 2) pa_nil))))
        (pss_cons (ps_dput hu (pv 5) (pe_ix ix_L (pv 2) (pv 3) (fun _ _ => rfl)) (pe_ix ix_T (pv 9) pe_int (fun _ _ => rfl)) rfl)
        (pss_cons (ps_dput hu (pv 7) (pe_ix ix_L (pv 2) (pv 3) (fun _ _ => rfl)) (pe_ix ix_T (pv 9) pe_int (fun _ _ => rfl)) rfl)
        (pss_cons (ps_dput hu (pv 6) (pe_ix ix_L (pv 2) (pv 3) (fun _ _ => rfl)) (pe_lc (own := [("_law_step", 11)]) (g := gName 11) (tt := tTest (tOp qEqS (tOp (qIxT K) (tVar 11) (tC (.int 0))) (tC (vS [115, 104, 97, 114, 101])))) rfl sc_law_k06.nd (pi_list (pe_ix ix_T (pv 9) pe_int (fun _ _ => rfl))) (blkOk_by (N := ["_law_script", "_law_first", "_law_names", "_law_k", "_law_name", "_law_table", "_law_wants", "_law_rows", "_law_odds", "_law_made", "_law_due", "_law_step"]) (own := [("_law_step", 11)]) (sc := defScope s_law_k06) (by decide +kernel)) (fun _ _ _ _ _ => (pg_name (i := 11) sc_law_k06.nd rfl (Or.inl rfl))) (fun _ _ _ _ _ => (pts_one (pt_cmpR op_eqS (pe_ix ix_T (pv 11) pe_int (fun _ _ => rfl)) (pe_lit _ lit_115_104_97_114_101) (nomark _)))) (fun _ _ _ _ _ => (pe_ix ix_T (pv 11) pe_int (fun _ _ => rfl)))) rfl)
        (pss_one (ps_expr (pe_bm PySem.F.plainAttrs_list PySem.F.slot_list_append PySem.F.type_list_append mt_append (pv 8) (pa_cons (pe_ix ix_T (pv 9) pe_int (fun _ _ => rfl)) pa_nil)))))))))
        (pss_cons (ps_set (i := 10) sc_law_k06.nd rfl (.inl rfl) (pe_lit _ lit_109_97_100_101))
        (C8.pss_cut (ps_if (pt_cmpR op_in_seq (pe_lit _ lit_101_115_99_97_112_101) (pv 8) rfl)
        (pss_one (ps_set (i := 10) sc_law_k06.nd rfl (.inl rfl) (pe_lit _ lit_h7802)))
        (pss_one (ps_if (pt_cmpR op_in_seq (pe_lit _ lit_115_104_97_114_101) (pv 8) rfl)
        (pss_one (ps_set (i := 10) sc_law_k06.nd rfl (.inl rfl) (pe_lit _ lit_h6622)))
        (pss_one (ps_if (pt_val (pe_fn0 (ok_l_rings T) hr (by decide) rfl (pa_cons (pv 6) pa_nil)))
        (pss_one (ps_set (i := 10) sc_law_k06.nd rfl (.inl rfl) (pe_lit _ lit_h5540)))
        pss_nil)))))
        (pss_cons (ps_if (pt_cmpR op_neS (pe_fn0 (ok_l_said T) hr (by decide) rfl (pa_cons (pv 5) pa_nil)) (pv 10) (nomark _))
        (pss_one (ps_ret pe_bl))
        pss_nil)
        (pss_one (ps_ret (pe_or (pe_cmpR op_neS (pv 10) (pe_lit _ lit_109_97_100_101) (nomark _)) (pe_one (pe_fn0 (ok_l_stand T) hr (by decide) rfl (pa_cons (pv 5) (pa_cons (pv 7) pa_nil)))))))))))))))))))
  exact G
end
theorem all_mk {l : PySem.W.OpenLaw} {w : World} {K : PySem.W.Frag} {h : Heap} {mg : Str → Option Value} {fa f1 f2 f3 f4 f5 f6 f7 f8 f9 f10 f11 f12 f13 f14 f15 f16 f17 f18 f19 f20 f21 f22 f23 cP cB cN cR cSh : Addr} (X : K.In h) (G : h.Ns mainGlobals mg) (hfa : mg "law" = some (.ref fa))
    {od1 an1 od2 an2 od3 an3 od4 an4 od5 an5 od6 an6 od7 an7 od8 an8 od9 an9 od10 an10 od11 an11 od12 an12 od13 an13 od14 an14 od15 an15 od16 an16 od17 an17 od18 an18 od19 an19 od20 an20 od21 an21 od22 an22 od23 an23 : Option Addr} {sl1 sl2 sl3 sl4 sl5 sl6 sl7 sl8 sl9 sl10 sl11 sl12 sl13 sl14 sl15 sl16 sl17 sl18 sl19 sl20 sl21 sl22 sl23 : Array (Option Value)} {oc1 kV1 dc1 pm1 cd1 ct1 oc2 kV2 dc2 pm2 cd2 ct2 oc3 kV3 dc3 pm3 cd3 ct3 oc4 kV4 dc4 pm4 cd4 ct4 oc5 kV5 dc5 pm5 cd5 ct5 oc6 kV6 dc6 pm6 cd6 ct6 oc7 kV7 dc7 pm7 cd7 ct7 oc8 kV8 dc8 pm8 cd8 ct8 oc9 kV9 dc9 pm9 cd9 ct9 oc10 kV10 dc10 pm10 cd10 ct10 oc11 kV11 dc11 pm11 cd11 ct11 oc12 kV12 dc12 pm12 cd12 ct12 oc13 kV13 dc13 pm13 cd13 ct13 oc14 kV14 dc14 pm14 cd14 ct14 oc15 kV15 dc15 pm15 cd15 ct15 oc16 kV16 dc16 pm16 cd16 ct16 oc17 kV17 dc17 pm17 cd17 ct17 oc18 kV18 dc18 pm18 cd18 ct18 oc19 kV19 dc19 pm19 cd19 ct19 oc20 kV20 dc20 pm20 cd20 ct20 oc21 kV21 dc21 pm21 cd21 ct21 oc22 kV22 dc22 pm22 cd22 ct22 oc23 kV23 dc23 pm23 cd23 ct23 : Value} {tSIGNS tFIGURES : Tok}
    (a1 : PySem.W.nsIn K mainGlobals "_law_of" = some (some (.ref f1)))
    (l1 : K.lookup f1 = some ⟨oc1, od1, .func (PySem.W.fnOf "_law_of" "_law_of" (defArgs s_l_of) (defBody s_l_of) (defScope s_l_of) .none kV1 dc1 pm1 an1 cd1 ct1), sl1⟩)
    (c1 : PySem.W.codeIn K cd1 "_law_of" = true)
    (k1 : PySem.W.keepIn K (.ref f1) = true)
    (a2 : PySem.W.nsIn K mainGlobals "_law_signs" = some (some (.ref f2)))
    (l2 : K.lookup f2 = some ⟨oc2, od2, .func (PySem.W.fnOf "_law_signs" "_law_signs" (defArgs s_l_signs) (defBody s_l_signs) (defScope s_l_signs) .none kV2 dc2 pm2 an2 cd2 ct2), sl2⟩)
    (c2 : PySem.W.codeIn K cd2 "_law_signs" = true)
    (k2 : PySem.W.keepIn K (.ref f2) = true)
    (a3 : PySem.W.nsIn K mainGlobals "_law_name_by" = some (some (.ref f3)))
    (l3 : K.lookup f3 = some ⟨oc3, od3, .func (PySem.W.fnOf "_law_name_by" "_law_name_by" (defArgs s_l_name_by) (defBody s_l_name_by) (defScope s_l_name_by) .none kV3 dc3 pm3 an3 cd3 ct3), sl3⟩)
    (c3 : PySem.W.codeIn K cd3 "_law_name_by" = true)
    (k3 : PySem.W.keepIn K (.ref f3) = true)
    (a4 : PySem.W.nsIn K mainGlobals "_law_escape" = some (some (.ref f4)))
    (l4 : K.lookup f4 = some ⟨oc4, od4, .func (PySem.W.fnOf "_law_escape" "_law_escape" (defArgs s_l_escape) (defBody s_l_escape) (defScope s_l_escape) .none kV4 dc4 pm4 an4 cd4 ct4), sl4⟩)
    (c4 : PySem.W.codeIn K cd4 "_law_escape" = true)
    (k4 : PySem.W.keepIn K (.ref f4) = true)
    (a5 : PySem.W.nsIn K mainGlobals "_law_part_by" = some (some (.ref f5)))
    (l5 : K.lookup f5 = some ⟨oc5, od5, .func (PySem.W.fnOf "_law_part_by" "_law_part_by" (defArgs s_l_part_by) (defBody s_l_part_by) (defScope s_l_part_by) .none kV5 dc5 pm5 an5 cd5 ct5), sl5⟩)
    (c5 : PySem.W.codeIn K cd5 "_law_part_by" = true)
    (k5 : PySem.W.keepIn K (.ref f5) = true)
    (a6 : PySem.W.nsIn K mainGlobals "_law_share_by" = some (some (.ref f6)))
    (l6 : K.lookup f6 = some ⟨oc6, od6, .func (PySem.W.fnOf "_law_share_by" "_law_share_by" (defArgs s_l_share_by) (defBody s_l_share_by) (defScope s_l_share_by) .none kV6 dc6 pm6 an6 cd6 ct6), sl6⟩)
    (c6 : PySem.W.codeIn K cd6 "_law_share_by" = true)
    (k6 : PySem.W.keepIn K (.ref f6) = true)
    (a7 : PySem.W.nsIn K mainGlobals "_law_path_of" = some (some (.ref f7)))
    (l7 : K.lookup f7 = some ⟨oc7, od7, .func (PySem.W.fnOf "_law_path_of" "_law_path_of" (defArgs s_l_path_of) (defBody s_l_path_of) (defScope s_l_path_of) .none kV7 dc7 pm7 an7 cd7 ct7), sl7⟩)
    (c7 : PySem.W.codeIn K cd7 "_law_path_of" = true)
    (k7 : PySem.W.keepIn K (.ref f7) = true)
    (a8 : PySem.W.nsIn K mainGlobals "gone" = some (some (.ref f8)))
    (l8 : K.lookup f8 = some ⟨oc8, od8, .func (PySem.W.fnOf "gone" "gone" (defArgs s_p_gone) (defBody s_p_gone) (defScope s_p_gone) .none kV8 dc8 pm8 an8 cd8 ct8), sl8⟩)
    (c8 : PySem.W.codeIn K cd8 "gone" = true)
    (k8 : PySem.W.keepIn K (.ref f8) = true)
    (a9 : PySem.W.nsIn K mainGlobals "wanted" = some (some (.ref f9)))
    (l9 : K.lookup f9 = some ⟨oc9, od9, .func (PySem.W.fnOf "wanted" "wanted" (defArgs s_p_wanted) (defBody s_p_wanted) (defScope s_p_wanted) .none kV9 dc9 pm9 an9 cd9 ct9), sl9⟩)
    (c9 : PySem.W.codeIn K cd9 "wanted" = true)
    (k9 : PySem.W.keepIn K (.ref f9) = true)
    (a10 : PySem.W.nsIn K mainGlobals "settled" = some (some (.ref f10)))
    (l10 : K.lookup f10 = some ⟨oc10, od10, .func (PySem.W.fnOf "settled" "settled" (defArgs s_p_settled) (defBody s_p_settled) (defScope s_p_settled) .none kV10 dc10 pm10 an10 cd10 ct10), sl10⟩)
    (c10 : PySem.W.codeIn K cd10 "settled" = true)
    (k10 : PySem.W.keepIn K (.ref f10) = true)
    (a11 : PySem.W.nsIn K mainGlobals "sign_of" = some (some (.ref f11)))
    (l11 : K.lookup f11 = some ⟨oc11, od11, .func (PySem.W.fnOf "sign_of" "sign_of" (defArgs s_p_sign_of) (defBody s_p_sign_of) (defScope s_p_sign_of) .none kV11 dc11 pm11 an11 cd11 ct11), sl11⟩)
    (c11 : PySem.W.codeIn K cd11 "sign_of" = true)
    (k11 : PySem.W.keepIn K (.ref f11) = true)
    (a12 : PySem.W.nsIn K mainGlobals "name_of" = some (some (.ref f12)))
    (l12 : K.lookup f12 = some ⟨oc12, od12, .func (PySem.W.fnOf "name_of" "name_of" (defArgs s_p_name_of) (defBody s_p_name_of) (defScope s_p_name_of) .none kV12 dc12 pm12 an12 cd12 ct12), sl12⟩)
    (c12 : PySem.W.codeIn K cd12 "name_of" = true)
    (k12 : PySem.W.keepIn K (.ref f12) = true)
    (a13 : PySem.W.nsIn K mainGlobals "step_of" = some (some (.ref f13)))
    (l13 : K.lookup f13 = some ⟨oc13, od13, .func (PySem.W.fnOf "step_of" "step_of" (defArgs s_p_step_of) (defBody s_p_step_of) (defScope s_p_step_of) .none kV13 dc13 pm13 an13 cd13 ct13), sl13⟩)
    (c13 : PySem.W.codeIn K cd13 "step_of" = true)
    (k13 : PySem.W.keepIn K (.ref f13) = true)
    (a14 : PySem.W.nsIn K mainGlobals "steps_of" = some (some (.ref f14)))
    (l14 : K.lookup f14 = some ⟨oc14, od14, .func (PySem.W.fnOf "steps_of" "steps_of" (defArgs s_p_steps_of) (defBody s_p_steps_of) (defScope s_p_steps_of) .none kV14 dc14 pm14 an14 cd14 ct14), sl14⟩)
    (c14 : PySem.W.codeIn K cd14 "steps_of" = true)
    (k14 : PySem.W.keepIn K (.ref f14) = true)
    (a15 : PySem.W.findIn K (.ref cSh) "__init__" = some (some (.ref f15)))
    (i15 : PySem.W.isFn K (.ref f15) = true)
    (l15 : K.lookup f15 = some ⟨oc15, od15, .func (PySem.W.fnOf "__init__" "Shares.__init__" (defArgs s_p_Shares_init) (defBody s_p_Shares_init) (defScope s_p_Shares_init) .none kV15 dc15 pm15 an15 cd15 ct15), sl15⟩)
    (c15 : PySem.W.codeIn K cd15 "Shares.__init__" = true)
    (k15 : PySem.W.keepIn K (.ref f15) = true)
    (a16 : PySem.W.nsIn K mainGlobals "_law_said" = some (some (.ref f16)))
    (l16 : K.lookup f16 = some ⟨oc16, od16, .func (PySem.W.fnOf "_law_said" "_law_said" (defArgs s_l_said) (defBody s_l_said) (defScope s_l_said) .none kV16 dc16 pm16 an16 cd16 ct16), sl16⟩)
    (c16 : PySem.W.codeIn K cd16 "_law_said" = true)
    (k16 : PySem.W.keepIn K (.ref f16) = true)
    (a17 : PySem.W.nsIn K mainGlobals "_law_walk" = some (some (.ref f17)))
    (l17 : K.lookup f17 = some ⟨oc17, od17, .func (PySem.W.fnOf "_law_walk" "_law_walk" (defArgs s_l_walk_k06) (defBody s_l_walk_k06) (defScope s_l_walk_k06) .none kV17 dc17 pm17 an17 cd17 ct17), sl17⟩)
    (c17 : PySem.W.codeIn K cd17 "_law_walk" = true)
    (k17 : PySem.W.keepIn K (.ref f17) = true)
    (a18 : PySem.W.nsIn K mainGlobals "_law_places" = some (some (.ref f18)))
    (l18 : K.lookup f18 = some ⟨oc18, od18, .func (PySem.W.fnOf "_law_places" "_law_places" (defArgs s_l_places) (defBody s_l_places) (defScope s_l_places) .none kV18 dc18 pm18 an18 cd18 ct18), sl18⟩)
    (c18 : PySem.W.codeIn K cd18 "_law_places" = true)
    (k18 : PySem.W.keepIn K (.ref f18) = true)
    (a19 : PySem.W.findIn K (.ref cSh) "place" = some (some (.ref f19)))
    (i19 : PySem.W.isFn K (.ref f19) = true)
    (l19 : K.lookup f19 = some ⟨oc19, od19, .func (PySem.W.fnOf "place" "Shares.place" (defArgs s_p_Shares_place) (defBody s_p_Shares_place) (defScope s_p_Shares_place) .none kV19 dc19 pm19 an19 cd19 ct19), sl19⟩)
    (c19 : PySem.W.codeIn K cd19 "Shares.place" = true)
    (k19 : PySem.W.keepIn K (.ref f19) = true)
    (a20 : PySem.W.nsIn K mainGlobals "_law_stand" = some (some (.ref f20)))
    (l20 : K.lookup f20 = some ⟨oc20, od20, .func (PySem.W.fnOf "_law_stand" "_law_stand" (defArgs s_l_stand) (defBody s_l_stand) (defScope s_l_stand) .none kV20 dc20 pm20 an20 cd20 ct20), sl20⟩)
    (c20 : PySem.W.codeIn K cd20 "_law_stand" = true)
    (k20 : PySem.W.keepIn K (.ref f20) = true)
    (a21 : PySem.W.nsIn K mainGlobals "_law_rings" = some (some (.ref f21)))
    (l21 : K.lookup f21 = some ⟨oc21, od21, .func (PySem.W.fnOf "_law_rings" "_law_rings" (defArgs s_l_rings) (defBody s_l_rings) (defScope s_l_rings) .none kV21 dc21 pm21 an21 cd21 ct21), sl21⟩)
    (c21 : PySem.W.codeIn K cd21 "_law_rings" = true)
    (k21 : PySem.W.keepIn K (.ref f21) = true)
    (a22 : PySem.W.nsIn K mainGlobals "_law_row_of_forty" = some (some (.ref f22)))
    (l22 : K.lookup f22 = some ⟨oc22, od22, .func (PySem.W.fnOf "_law_row_of_forty" "_law_row_of_forty" (defArgs s_l_row_of_forty_k06) (defBody s_l_row_of_forty_k06) (defScope s_l_row_of_forty_k06) .none kV22 dc22 pm22 an22 cd22 ct22), sl22⟩)
    (c22 : PySem.W.codeIn K cd22 "_law_row_of_forty" = true)
    (k22 : PySem.W.keepIn K (.ref f22) = true)
    (a23 : PySem.W.nsIn K mainGlobals "law" = some (some (.ref f23)))
    (l23 : K.lookup f23 = some ⟨oc23, od23, .func (PySem.W.fnOf "law" "law" (defArgs s_law_k06) (defBody s_law_k06) (defScope s_law_k06) .none kV23 dc23 pm23 an23 cd23 ct23), sl23⟩)
    (c23 : PySem.W.codeIn K cd23 "law" = true)
    (k23 : PySem.W.keepIn K (.ref f23) = true)
    (gSIGNS : PySem.W.nsIn K mainGlobals "SIGNS" = some (some (.str (S signs) tSIGNS)))
    (gFIGURES : PySem.W.nsIn K mainGlobals "FIGURES" = some (some (.str (S figs) tFIGURES)))
    (xgP : PySem.W.nsIn K mainGlobals "PathError" = some (some (.ref cP)))
    (xxP : PySem.W.excIn K cP [.type "ValueError", .type "Exception", .type "BaseException", .type "object"] "ValueError.__new__" = true)
    (xkP : PySem.W.keepIn K (.ref cP) = true)
    (xbP : PySem.W.subIn K (.ref cP) (.type "BaseException") = some true)
    (xtP : PySem.W.typeIn K (.ref cP) = some (.type "type"))
    (xgB : PySem.W.nsIn K mainGlobals "BadEscape" = some (some (.ref cB)))
    (xxB : PySem.W.excIn K cB [.type "ValueError", .type "Exception", .type "BaseException", .type "object"] "ValueError.__new__" = true)
    (xkB : PySem.W.keepIn K (.ref cB) = true)
    (xbB : PySem.W.subIn K (.ref cB) (.type "BaseException") = some true)
    (xtB : PySem.W.typeIn K (.ref cB) = some (.type "type"))
    (xgN : PySem.W.nsIn K mainGlobals "NoShare" = some (some (.ref cN)))
    (xxN : PySem.W.excIn K cN [.type "ValueError", .type "Exception", .type "BaseException", .type "object"] "ValueError.__new__" = true)
    (xkN : PySem.W.keepIn K (.ref cN) = true)
    (xbN : PySem.W.subIn K (.ref cN) (.type "BaseException") = some true)
    (xtN : PySem.W.typeIn K (.ref cN) = some (.type "type"))
    (xgR : PySem.W.nsIn K mainGlobals "Ring" = some (some (.ref cR)))
    (xxR : PySem.W.excIn K cR [.type "ValueError", .type "Exception", .type "BaseException", .type "object"] "ValueError.__new__" = true)
    (xkR : PySem.W.keepIn K (.ref cR) = true)
    (xbR : PySem.W.subIn K (.ref cR) (.type "BaseException") = some true)
    (xtR : PySem.W.typeIn K (.ref cR) = some (.type "type"))
    (z_ValueError : PySem.W.nsIn K mainGlobals "ValueError" = some none)
    (z_all : PySem.W.nsIn K mainGlobals "all" = some none)
    (z_any : PySem.W.nsIn K mainGlobals "any" = some none)
    (z_dict : PySem.W.nsIn K mainGlobals "dict" = some none)
    (z_int : PySem.W.nsIn K mainGlobals "int" = some none)
    (z_isinstance : PySem.W.nsIn K mainGlobals "isinstance" = some none)
    (z_len : PySem.W.nsIn K mainGlobals "len" = some none)
    (z_list : PySem.W.nsIn K mainGlobals "list" = some none)
    (z_range : PySem.W.nsIn K mainGlobals "range" = some none)
    (z_str : PySem.W.nsIn K mainGlobals "str" = some none)
    (eb1 : PySem.W.findIn K (.ref cB) "__getattribute__" = some (some (.builtin "BaseException.__getattribute__")))
    (eb2 : PySem.W.findIn K (.ref cB) "__getattr__" = some none)
    (eb4 : PySem.W.hasDictIn K cB = true)
    (eb5 : PySem.W.findIn K (.ref cB) "__class__" = some (some (.builtin "object.__class__")))
    (eb6 : PySem.W.specialIn K (.builtin "object.__class__") "__get__" = some (some (.builtin "getset_descriptor.__get__")))
    (eb7 : PySem.W.takesIn K (.builtin "object.__class__") = some true)
    (eb8 : PySem.W.mroIn K cB (.type "object") = some true)
    (en1 : PySem.W.findIn K (.ref cN) "__getattribute__" = some (some (.builtin "BaseException.__getattribute__")))
    (en2 : PySem.W.findIn K (.ref cN) "__getattr__" = some none)
    (en4 : PySem.W.hasDictIn K cN = true)
    (en5 : PySem.W.findIn K (.ref cN) "__class__" = some (some (.builtin "object.__class__")))
    (en8 : PySem.W.mroIn K cN (.type "object") = some true)
    (er1 : PySem.W.findIn K (.ref cR) "__getattribute__" = some (some (.builtin "BaseException.__getattribute__")))
    (er2 : PySem.W.findIn K (.ref cR) "__getattr__" = some none)
    (er4 : PySem.W.hasDictIn K cR = true)
    (er5 : PySem.W.findIn K (.ref cR) "__class__" = some (some (.builtin "object.__class__")))
    (er8 : PySem.W.mroIn K cR (.type "object") = some true)
    (mBP : PySem.W.exmOne K (.ref cB) (.ref cP) = some true)
    (mNP : PySem.W.exmOne K (.ref cN) (.ref cP) = some true)
    (mRP : PySem.W.exmOne K (.ref cR) (.ref cP) = some true)
    (kBB : PySem.W.kitOne K (.ref cB) (.ref cB) = some true)
    (kBN : PySem.W.kitOne K (.ref cB) (.ref cN) = some false)
    (kBR : PySem.W.kitOne K (.ref cB) (.ref cR) = some false)
    (kBV : PySem.W.kitOne K (.ref cB) (.type "ValueError") = some true)
    (kNB : PySem.W.kitOne K (.ref cN) (.ref cB) = some false)
    (kNN : PySem.W.kitOne K (.ref cN) (.ref cN) = some true)
    (kNR : PySem.W.kitOne K (.ref cN) (.ref cR) = some false)
    (kNV : PySem.W.kitOne K (.ref cN) (.type "ValueError") = some true)
    (kRB : PySem.W.kitOne K (.ref cR) (.ref cB) = some false)
    (kRN : PySem.W.kitOne K (.ref cR) (.ref cN) = some false)
    (kRR : PySem.W.kitOne K (.ref cR) (.ref cR) = some true)
    (kRV : PySem.W.kitOne K (.ref cR) (.type "ValueError") = some true)
    (sg : PySem.W.nsIn K mainGlobals "Shares" = some (some (.ref cSh)))
    (s1 : PySem.W.plainGet K cSh Str.empty = true)
    (s2 : PySem.W.hasDictIn K cSh = true)
    (s3 : PySem.W.plainOver K cSh = true)
    (s4 : PySem.W.findIn K (.ref cSh) "__setattr__" = some (some (.builtin "object.__setattr__")))
    (s5 : PySem.W.makesIn K cSh = true)
    (s6 : PySem.W.keepIn K (.ref cSh) = true)
    (s7 : PySem.W.findIn K (.ref cSh) "order" = some none)
    (s8 : PySem.W.findIn K (.ref cSh) "spots" = some none)
    : ∃ fd : FuncData, (∀ (s : Shared) (v : Value), BindsTo s fd ⟨[v], []⟩ [("_law_script", v)]) ∧ ∀ base : Heap, K.In base → base.Ns mainGlobals mg → FnOk l.prog w K mg base CX0 8 fa fd ["_law_script"] (sp_law K ⟨0, 0, 0, 0, 0⟩) := by
  have e := hfa.symm.trans (PySem.W.mg_of X G a23)
  cases e
  have T : Txt K mg ⟨cP, cB, cN, cR, cSh⟩ := by
    constructor
    · exact ⟨_, _, fun_mk (st := s_l_of) l1 c1 k1, PySem.W.mg_of X G a1, (fun_mk (st := s_l_of) l1 c1 k1).binds (ps := ["_law_script", "_law_k"]) fun _ _ _ _ _ _ us hl => match us, hl with | [_, _], _ => rfl⟩
    · exact ⟨_, _, fun_mk (st := s_l_signs) l2 c2 k2, PySem.W.mg_of X G a2, (fun_mk (st := s_l_signs) l2 c2 k2).binds (ps := []) fun _ _ _ _ _ _ us hl => match us, hl with | [], _ => rfl⟩
    · exact ⟨_, _, fun_mk (st := s_l_name_by) l3 c3 k3, PySem.W.mg_of X G a3, (fun_mk (st := s_l_name_by) l3 c3 k3).binds (ps := ["_law_cell"]) fun _ _ _ _ _ _ us hl => match us, hl with | [_], _ => rfl⟩
    · exact ⟨_, _, fun_mk (st := s_l_escape) l4 c4 k4, PySem.W.mg_of X G a4, (fun_mk (st := s_l_escape) l4 c4 k4).binds (ps := ["_law_sign"]) fun _ _ _ _ _ _ us hl => match us, hl with | [_], _ => rfl⟩
    · exact ⟨_, _, fun_mk (st := s_l_part_by) l5 c5 k5, PySem.W.mg_of X G a5, (fun_mk (st := s_l_part_by) l5 c5 k5).binds (ps := ["_law_name", "_law_cell"]) fun _ _ _ _ _ _ us hl => match us, hl with | [_, _], _ => rfl⟩
    · exact ⟨_, _, fun_mk (st := s_l_share_by) l6 c6 k6, PySem.W.mg_of X G a6, (fun_mk (st := s_l_share_by) l6 c6 k6).binds (ps := ["_law_name", "_law_cell"]) fun _ _ _ _ _ _ us hl => match us, hl with | [_, _], _ => rfl⟩
    · exact ⟨_, _, fun_mk (st := s_l_path_of) l7 c7 k7, PySem.W.mg_of X G a7, (fun_mk (st := s_l_path_of) l7 c7 k7).binds (ps := ["_law_cell", "_law_names"]) fun _ _ _ _ _ _ us hl => match us, hl with | [_, _], _ => rfl⟩
    · exact ⟨_, _, fun_mk (st := s_p_gone) l8 c8 k8, PySem.W.mg_of X G a8, (fun_mk (st := s_p_gone) l8 c8 k8).binds (ps := ["place", "step", "spots"]) fun _ _ _ _ _ _ us hl => match us, hl with | [_, _, _], _ => rfl⟩
    · exact ⟨_, _, fun_mk (st := s_p_wanted) l9 c9 k9, PySem.W.mg_of X G a9, (fun_mk (st := s_p_wanted) l9 c9 k9).binds (ps := ["steps"]) fun _ _ _ _ _ _ us hl => match us, hl with | [_], _ => rfl⟩
    · exact ⟨_, _, fun_mk (st := s_p_settled) l10 c10 k10, PySem.W.mg_of X G a10, (fun_mk (st := s_p_settled) l10 c10 k10).binds (ps := ["rows"]) fun _ _ _ _ _ _ us hl => match us, hl with | [_], _ => rfl⟩
    · exact ⟨_, _, fun_mk (st := s_p_sign_of) l11 c11 k11, PySem.W.mg_of X G a11, (fun_mk (st := s_p_sign_of) l11 c11 k11).binds (ps := ["figures"]) fun _ _ _ _ _ _ us hl => match us, hl with | [_], _ => rfl⟩
    · exact ⟨_, _, fun_mk (st := s_p_name_of) l12 c12 k12, PySem.W.mg_of X G a12, (fun_mk (st := s_p_name_of) l12 c12 k12).binds (ps := ["part"]) fun _ _ _ _ _ _ us hl => match us, hl with | [_], _ => rfl⟩
    · exact ⟨_, _, fun_mk (st := s_p_step_of) l13 c13 k13, PySem.W.mg_of X G a13, (fun_mk (st := s_p_step_of) l13 c13 k13).binds (ps := ["part"]) fun _ _ _ _ _ _ us hl => match us, hl with | [_], _ => rfl⟩
    · exact ⟨_, _, fun_mk (st := s_p_steps_of) l14 c14 k14, PySem.W.mg_of X G a14, (fun_mk (st := s_p_steps_of) l14 c14 k14).binds (ps := ["path"]) fun _ _ _ _ _ _ us hl => match us, hl with | [_], _ => rfl⟩
    · exact ⟨_, _, fun_mk (st := s_p_Shares_init) l15 c15 k15, a15, i15, (fun_mk (st := s_p_Shares_init) l15 c15 k15).binds (ps := ["self", "table"]) fun _ _ _ _ _ _ us hl => match us, hl with | [_, _], _ => rfl⟩
    · exact ⟨_, _, fun_mk (st := s_l_said) l16 c16 k16, PySem.W.mg_of X G a16, (fun_mk (st := s_l_said) l16 c16 k16).binds (ps := ["_law_table"]) fun _ _ _ _ _ _ us hl => match us, hl with | [_], _ => rfl⟩
    · exact ⟨_, _, fun_mk (st := s_l_walk_k06) l17 c17 k17, PySem.W.mg_of X G a17, (fun_mk (st := s_l_walk_k06) l17 c17 k17).binds (ps := ["_law_place", "_law_steps", "_law_places_here"]) fun _ _ _ _ _ _ us hl => match us, hl with | [_, _, _], _ => rfl⟩
    · exact ⟨_, _, fun_mk (st := s_l_places) l18 c18 k18, PySem.W.mg_of X G a18, (fun_mk (st := s_l_places) l18 c18 k18).binds (ps := ["_law_rows"]) fun _ _ _ _ _ _ us hl => match us, hl with | [_], _ => rfl⟩
    · exact ⟨_, _, fun_mk (st := s_p_Shares_place) l19 c19 k19, ⟨a19, i19, k19⟩, (fun_mk (st := s_p_Shares_place) l19 c19 k19).binds (ps := ["self", "name"]) fun _ _ _ _ _ _ us hl => match us, hl with | [_, _], _ => rfl⟩
    · exact ⟨_, _, fun_mk (st := s_l_stand) l20 c20 k20, PySem.W.mg_of X G a20, (fun_mk (st := s_l_stand) l20 c20 k20).binds (ps := ["_law_table", "_law_rows"]) fun _ _ _ _ _ _ us hl => match us, hl with | [_, _], _ => rfl⟩
    · exact ⟨_, _, fun_mk (st := s_l_rings) l21 c21 k21, PySem.W.mg_of X G a21, (fun_mk (st := s_l_rings) l21 c21 k21).binds (ps := ["_law_wants"]) fun _ _ _ _ _ _ us hl => match us, hl with | [_], _ => rfl⟩
    · exact ⟨_, _, fun_mk (st := s_l_row_of_forty_k06) l22 c22 k22, PySem.W.mg_of X G a22, (fun_mk (st := s_l_row_of_forty_k06) l22 c22 k22).binds (ps := ["_law_ring"]) fun _ _ _ _ _ _ us hl => match us, hl with | [_], _ => rfl⟩
    · exact ⟨_, _, fun_mk (st := s_law_k06) l23 c23 k23, PySem.W.mg_of X G a23, (fun_mk (st := s_law_k06) l23 c23 k23).binds (ps := ["_law_script"]) fun _ _ _ _ _ _ us hl => match us, hl with | [_], _ => rfl⟩
    · exact ⟨_, PySem.W.mg_of X G gSIGNS, _, rfl⟩
    · exact ⟨_, PySem.W.mg_of X G gFIGURES, _, rfl⟩
    · exact ⟨xxP, PySem.W.mg_of X G xgP, xkP, xbP, xtP⟩
    · exact ⟨_, PySem.W.mg_of X G xgP, rfl⟩
    · exact ⟨xxB, PySem.W.mg_of X G xgB, xkB, xbB, xtB⟩
    · exact ⟨_, PySem.W.mg_of X G xgB, rfl⟩
    · exact ⟨xxN, PySem.W.mg_of X G xgN, xkN, xbN, xtN⟩
    · exact ⟨_, PySem.W.mg_of X G xgN, rfl⟩
    · exact ⟨xxR, PySem.W.mg_of X G xgR, xkR, xbR, xtR⟩
    · exact ⟨_, PySem.W.mg_of X G xgR, rfl⟩
    · exact PySem.W.mg_none_of X G z_ValueError
    · exact PySem.W.mg_none_of X G z_all
    · exact PySem.W.mg_none_of X G z_any
    · exact PySem.W.mg_none_of X G z_dict
    · exact PySem.W.mg_none_of X G z_int
    · exact PySem.W.mg_none_of X G z_isinstance
    · exact PySem.W.mg_none_of X G z_len
    · exact PySem.W.mg_none_of X G z_list
    · exact PySem.W.mg_none_of X G z_range
    · exact PySem.W.mg_none_of X G z_str
    · exact ⟨⟨eb1, eb2, xbB, eb4, eb5, eb6, eb7, eb8⟩, ⟨en1, en2, xbN, en4, en5, eb6, eb7, en8⟩, ⟨er1, er2, xbR, er4, er5, eb6, eb7, er8⟩, mBP, mNP, mRP, kBB, kBN, kBR, kBV, kNB, kNN, kNR, kNV, kRB, kRN, kRR, kRV⟩
    · exact ⟨s1, s2, s3, s4⟩
    · exact ⟨s5, s6⟩
    · exact PySem.W.mg_of X G sg
    · exact s7
    · exact s8
  refine ⟨PySem.W.fnOf "law" "law" (defArgs s_law_k06) (defBody s_law_k06) (defScope s_law_k06) .none kV23 dc23 pm23 an23 cd23 ct23, fun s v => .of_eq rfl, fun base hb1 hb2 => ?_⟩
  have F2 := ok_law_k06 (P := l.prog) (w := w) (base := base) T (fun_mk (st := s_law_k06) l23 c23 k23)
  exact ⟨F2.len, F2.run⟩
end Pw
open PySem PySem.W PyProof.Rows
set_option pp.oneline true in
set_option pp.maxSteps 40 in
set_option maxHeartbeats 0 in
theorem PySem.Challenge.cw_plainway_k06_tables_refused_holds : PySem.Challenge.rw_plainway_k06_tables_refused.Holds := by
  w_on; o_law; k_head; (case hw => w_witness2)
  k_fill
  refine L2.walk_of (l := PySem.Challenge.rw_plainway_k06_tables_refused) (n := 63) (k := 8) (x := "_law_script") (CX := fun _ => L2.CX0) (sp := fun w => Pw.sp_law _ ⟨0, 0, 0, 0, 0⟩) rfl (by decide) rfl ⟨rfl, by decide, by decide⟩ (fun w h Y => PySem.W.kIn_of Y) ?F (fun _ _ a ns hl _ hS => ⟨a, ns, rfl, hS, hl, fun _ => rfl⟩) (fun _ _ _ _ _ h => h)
  case F =>
    intro w mg fa h KX G hmg
    refine' Pw.all_mk KX G hmg ?a1 ?l1 ?c1 ?k1 ?a2 ?l2 ?c2 ?k2 ?a3 ?l3 ?c3 ?k3 ?a4 ?l4 ?c4 ?k4 ?a5 ?l5 ?c5 ?k5 ?a6 ?l6 ?c6 ?k6 ?a7 ?l7 ?c7 ?k7 ?a8 ?l8 ?c8 ?k8 ?a9 ?l9 ?c9 ?k9 ?a10 ?l10 ?c10 ?k10 ?a11 ?l11 ?c11 ?k11 ?a12 ?l12 ?c12 ?k12 ?a13 ?l13 ?c13 ?k13 ?a14 ?l14 ?c14 ?k14 ?a15 ?i15 ?l15 ?c15 ?k15 ?a16 ?l16 ?c16 ?k16 ?a17 ?l17 ?c17 ?k17 ?a18 ?l18 ?c18 ?k18 ?a19 ?i19 ?l19 ?c19 ?k19 ?a20 ?l20 ?c20 ?k20 ?a21 ?l21 ?c21 ?k21 ?a22 ?l22 ?c22 ?k22 ?a23 ?l23 ?c23 ?k23 ?gSIGNS ?gFIGURES ?xgP ?xxP ?xkP ?xbP ?xtP ?xgB ?xxB ?xkB ?xbB ?xtB ?xgN ?xxN ?xkN ?xbN ?xtN ?xgR ?xxR ?xkR ?xbR ?xtR ?z_ValueError ?z_all ?z_any ?z_dict ?z_int ?z_isinstance ?z_len ?z_list ?z_range ?z_str ?eb1 ?eb2 ?eb4 ?eb5 ?eb6 ?eb7 ?eb8 ?en1 ?en2 ?en4 ?en5 ?en8 ?er1 ?er2 ?er4 ?er5 ?er8 ?mBP ?mNP ?mRP ?kBB ?kBN ?kBR ?kBV ?kNB ?kNN ?kNR ?kNV ?kRB ?kRN ?kRR ?kRV ?sg ?s1 ?s2 ?s3 ?s4 ?s5 ?s6 ?s7 ?s8
    (case a1 => k_is)
    (case a2 => k_is)
    (case a3 => k_is)
    (case a4 => k_is)
    (case a5 => k_is)
    (case a6 => k_is)
    (case a7 => k_is)
    (case a8 => k_is)
    (case a9 => k_is)
    (case a10 => k_is)
    (case a11 => k_is)
    (case a12 => k_is)
    (case a13 => k_is)
    (case a14 => k_is)
    (case a16 => k_is)
    (case a17 => k_is)
    (case a18 => k_is)
    (case a20 => k_is)
    (case a21 => k_is)
    (case a22 => k_is)
    (case a23 => k_is)
    (case gSIGNS => k_is)
    (case gFIGURES => k_is)
    (case xgP => k_is)
    (case xgB => k_is)
    (case xgN => k_is)
    (case xgR => k_is)
    (case z_ValueError => k_is)
    (case z_all => k_is)
    (case z_any => k_is)
    (case z_dict => k_is)
    (case z_int => k_is)
    (case z_isinstance => k_is)
    (case z_len => k_is)
    (case z_list => k_is)
    (case z_range => k_is)
    (case z_str => k_is)
    (case sg => k_is)
    (case a15 => k_is)
    (case a19 => k_is)
    (case eb1 => k_is)
    (case eb2 => k_is)
    (case eb5 => k_is)
    (case en1 => k_is)
    (case en2 => k_is)
    (case en5 => k_is)
    (case er1 => k_is)
    (case er2 => k_is)
    (case er5 => k_is)
    (case s4 => k_is)
    (case s7 => k_is)
    (case s8 => k_is)
    (case l1 => k_is)
    (case c1 => k_is)
    (case k1 => k_is)
    (case l2 => k_is)
    (case c2 => k_is)
    (case k2 => k_is)
    (case l3 => k_is)
    (case c3 => k_is)
    (case k3 => k_is)
    (case l4 => k_is)
    (case c4 => k_is)
    (case k4 => k_is)
    (case l5 => k_is)
    (case c5 => k_is)
    (case k5 => k_is)
    (case l6 => k_is)
    (case c6 => k_is)
    (case k6 => k_is)
    (case l7 => k_is)
    (case c7 => k_is)
    (case k7 => k_is)
    (case l8 => k_is)
    (case c8 => k_is)
    (case k8 => k_is)
    (case l9 => k_is)
    (case c9 => k_is)
    (case k9 => k_is)
    (case l10 => k_is)
    (case c10 => k_is)
    (case k10 => k_is)
    (case l11 => k_is)
    (case c11 => k_is)
    (case k11 => k_is)
    (case l12 => k_is)
    (case c12 => k_is)
    (case k12 => k_is)
    (case l13 => k_is)
    (case c13 => k_is)
    (case k13 => k_is)
    (case l14 => k_is)
    (case c14 => k_is)
    (case k14 => k_is)
    (case i15 => k_is)
    (case l15 => k_is)
    (case c15 => k_is)
    (case k15 => k_is)
    (case l16 => k_is)
    (case c16 => k_is)
    (case k16 => k_is)
    (case l17 => k_is)
    (case c17 => k_is)
    (case k17 => k_is)
    (case l18 => k_is)
    (case c18 => k_is)
    (case k18 => k_is)
    (case i19 => k_is)
    (case l19 => k_is)
    (case c19 => k_is)
    (case k19 => k_is)
    (case l20 => k_is)
    (case c20 => k_is)
    (case k20 => k_is)
    (case l21 => k_is)
    (case c21 => k_is)
    (case k21 => k_is)
    (case l22 => k_is)
    (case c22 => k_is)
    (case k22 => k_is)
    (case l23 => k_is)
    (case c23 => k_is)
    (case k23 => k_is)
    (case xxP => k_exc)
    (case xkP => k_is)
    (case xbP => k_is)
    (case xtP => k_is)
    (case xxB => k_exc)
    (case xkB => k_is)
    (case xbB => k_is)
    (case xtB => k_is)
    (case xxN => k_exc)
    (case xkN => k_is)
    (case xbN => k_is)
    (case xtN => k_is)
    (case xxR => k_exc)
    (case xkR => k_is)
    (case xbR => k_is)
    (case xtR => k_is)
    (case eb4 => k_is)
    (case eb6 => k_is)
    (case eb7 => k_is)
    (case eb8 => k_is)
    (case en4 => k_is)
    (case en8 => k_is)
    (case er4 => k_is)
    (case er8 => k_is)
    (case mBP => kts_exm)
    (case mNP => kts_exm)
    (case mRP => kts_exm)
    (case kBB => kit_is)
    (case kBN => kit_is)
    (case kBR => kit_is)
    (case kBV => kit_is)
    (case kNB => kit_is)
    (case kNN => kit_is)
    (case kNR => kit_is)
    (case kNV => kit_is)
    (case kRB => kit_is)
    (case kRN => kit_is)
    (case kRR => kit_is)
    (case kRV => kit_is)
    (case s1 => k_is)
    (case s2 => k_is)
    (case s3 => k_is)
    (case s5 => k_is)
    (case s6 => k_is)

