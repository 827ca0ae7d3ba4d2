import PyProof.Rows.All
import Wide.All
import OpenK.AllK
import Wide.FinOn
import HandS.ForMost
import HandS.Exc
import HandS.TryOnly
import HandS.ExcOwn
import HandS.WordsExc
import HandS.Replace
import HandS.StrMore
import HandS.More
import HandS.IsInst
import HandS.ExcIs
import HandS.Conv
import HandS.DictComp
import HandS.Style
import HandS.Zip
import HandS.Flow
import HandS.Codes
import KE.GoesEnum
import KE.GoesMore
import PyProof.ToksMono
import PyProof.EnumMake
import HandS.ReplaceLit
import HandS.Walk
import PySem.Challenge.RW_plainway_k09_the_way_there
set_option Elab.async false
set_option linter.all false
set_option maxRecDepth 100000
set_option maxHeartbeats 4000000
/-! Signs, names, parts, steps: plain lists of codes. -/
namespace Pw
/-! ### signs -/
def signs : List Nat := [32, 33, 34, 35, 36, 38, 39, 40, 41, 42, 43, 44, 45, 46, 47, 48, 49, 50, 51, 52, 53, 54, 55, 56, 57, 58, 59, 60, 61, 62, 63, 64, 65, 66, 67, 68, 69, 70, 71, 72, 73, 74, 75, 76, 77, 78, 79, 80, 81, 82, 83, 84, 85, 86, 87, 88, 89, 90, 91, 92, 93, 94, 95, 96, 97, 98, 99, 100, 101, 102, 103, 104, 105, 106, 107, 108, 109, 110, 111, 112, 113, 114, 115, 116, 117, 118, 119, 120, 121, 122, 123, 124, 125, 126]
theorem signs_len : signs.length = 94 := by decide
def signAt (n : Nat) : Nat := signs.getD n 0
def numOf (c : Nat) : Nat := if c < 37 then c - 32 else c - 33
def Sign (c : Nat) : Prop := c ∈ signs
instance (c : Nat) : Decidable (Sign c) := inferInstanceAs (Decidable (c ∈ signs))
theorem signs_get {n : Nat} (h : n < 94) : signs[n]? = some (signAt n) := by
  have h2 : n < signs.length := h
  rw [signAt, List.getD_eq_getElem?_getD, List.getElem?_eq_getElem h2]
  rfl
theorem signAt_sign {n : Nat} (h : n < 94) : Sign (signAt n) := List.mem_of_getElem? (signs_get h)
theorem all_signs : ∀ c ∈ signs, numOf c < 94 ∧ signAt (numOf c) = c := by decide
theorem numOf_lt {c : Nat} (h : Sign c) : numOf c < 94 := (all_signs c h).1
theorem signAt_num {c : Nat} (h : Sign c) : signAt (numOf c) = c := (all_signs c h).2
theorem num_signs : ∀ n < 94, numOf (signAt n) = n := by decide
theorem signs_nodup : signs.Nodup := by decide
/-! ### escapes -/
def esc (c : Nat) : List Nat := [126, 48 + numOf c / 10, 48 + numOf c % 10]
def fig (c : Nat) : Bool := decide (48 ≤ c ∧ c ≤ 57)
/-- the number that two figures tell, where they are two and below 94 -/
def two (a b : Nat) : Option Nat := if fig a = true ∧ fig b = true ∧ 10 * (a - 48) + (b - 48) < 94 then some (10 * (a - 48) + (b - 48)) else none
/-- what stands behind a ~ -/
def signOf : List Nat → Option Nat
  | [a, b] => (two a b).map signAt
  | _ => none
def nameOf : List Nat → Option (List Nat)
  | [] => some []
  | [c] => if c = 126 then none else some [c]
  | [c, a] => if c = 126 then none else (nameOf [a]).map (c :: ·)
  | c :: a :: b :: r => if c = 126 then (match two a b with | some n => (nameOf r).map (signAt n :: ·) | none => none) else (nameOf (a :: b :: r)).map (c :: ·)
theorem nameOf_plain {c : Nat} (h : c ≠ 126) (r : List Nat) : nameOf (c :: r) = (nameOf r).map (c :: ·) := by
  match r with
  | [] => simp [nameOf, h]
  | [a] =>
    show (if c = 126 then none else (nameOf [a]).map (c :: ·)) = _
    rw [if_neg h]
  | a :: b :: r => rw [nameOf, if_neg h]
theorem nameOf_esc (r : List Nat) : nameOf (126 :: r) = (match signOf (r.take 2) with | some s => (nameOf (r.drop 2)).map (s :: ·) | none => none) := by
  match r with
  | [] => simp [nameOf, signOf]
  | [a] => simp [nameOf, signOf]
  | a :: b :: r =>
    rw [nameOf, if_pos rfl]
    show _ = (match signOf [a, b] with | some s => (nameOf r).map (s :: ·) | none => none)
    cases h : two a b with
    | none => simp [signOf, h]
    | some n => simp [signOf, h]
theorem two_num {n : Nat} (h : n < 94) : two (48 + n / 10) (48 + n % 10) = some n := by
  have h1 : n / 10 ≤ 9 := by omega
  have h2 : n % 10 ≤ 9 := by omega
  unfold two
  have e : 10 * (48 + n / 10 - 48) + (48 + n % 10 - 48) = n := by omega
  rw [e, if_pos]
  refine ⟨?_, ?_, h⟩
  · exact decide_eq_true (by omega)
  · exact decide_eq_true (by omega)
theorem nameOf_esc_num {n : Nat} (h : n < 94) (r : List Nat) : nameOf (126 :: (48 + n / 10) :: (48 + n % 10) :: r) = (nameOf r).map (signAt n :: ·) := by
  rw [nameOf, if_pos rfl, two_num h]
theorem nameOf_escC {c : Nat} (h : Sign c) (r : List Nat) : nameOf (esc c ++ r) = (nameOf r).map (c :: ·) := by
  show nameOf (126 :: (48 + numOf c / 10) :: (48 + numOf c % 10) :: r) = _
  rw [nameOf_esc_num (numOf_lt h), signAt_num h]
theorem nameOf_len : ∀ (l m : List Nat), nameOf l = some m → m.length ≤ l.length
  | [], m, h => by
    cases h
    exact Nat.le_refl 0
  | [c], m, h => by
    rw [nameOf] at h
    split at h
    · cases h
    · cases h
      exact Nat.le_refl 1
  | [c, a], m, h => by
    rw [nameOf] at h
    split at h
    · cases h
    · obtain ⟨m', h1, rfl⟩ := Option.map_eq_some_iff.mp h
      have := nameOf_len [a] m' h1
      simp at this ⊢
      omega
  | c :: a :: b :: r, m, h => by
    rw [nameOf] at h
    split at h
    · split at h
      · obtain ⟨m', h1, rfl⟩ := Option.map_eq_some_iff.mp h
        have := nameOf_len r m' h1
        simp at this ⊢
        omega
      · cases h
    · obtain ⟨m', h1, rfl⟩ := Option.map_eq_some_iff.mp h
      have := nameOf_len (a :: b :: r) m' h1
      simp at this ⊢
      omega
/-! ### names written -/
def Named (n : List Nat) : Prop := ∀ c ∈ n, Sign c
def must (n : List Nat) (i c : Nat) : Bool := decide (c = 47) || decide (c = 126) || (decide (i = 0) && (decide (c = 64) || decide (n = [46]) || decide (n = [46, 46])))
def piece (n : List Nat) (i c : Nat) : List Nat := if must n i c = true then esc c else [c]
/-- the pieces of the signs from the i-th on -/
def pieces (n : List Nat) : Nat → List Nat → List Nat
  | _, [] => []
  | i, c :: r => piece n i c ++ pieces n (i + 1) r
def written (n : List Nat) : List Nat := pieces n 0 n
theorem pieces_append (n : List Nat) : ∀ (a b : List Nat) (i : Nat), pieces n i (a ++ b) = pieces n i a ++ pieces n (i + a.length) b
  | [], b, i => by simp [pieces]
  | c :: a, b, i => by
    rw [List.cons_append, pieces, pieces, pieces_append n a b (i + 1), List.append_assoc, List.length_cons]
    congr 3
    omega
theorem pieces_take (n : List Nat) {i c : Nat} (h : n[i]? = some c) : pieces n 0 (n.take (i + 1)) = pieces n 0 (n.take i) ++ piece n i c := by
  have hi : i < n.length := (List.getElem?_eq_some_iff.mp h).1
  rw [List.take_add_one, h, pieces_append]
  have e : 0 + (n.take i).length = i := by
    rw [List.length_take]
    omega
  rw [e]
  show _ ++ (piece n i c ++ []) = _
  rw [List.append_nil]
theorem piece_len (n : List Nat) (i c : Nat) : 1 ≤ (piece n i c).length ∧ (piece n i c).length ≤ 3 := by
  unfold piece
  split <;> simp [esc]
theorem pieces_len (n : List Nat) : ∀ (l : List Nat) (i : Nat), l.length ≤ (pieces n i l).length ∧ (pieces n i l).length ≤ 3 * l.length
  | [], i => by simp [pieces]
  | c :: r, i => by
    have h1 := piece_len n i c
    have h2 := pieces_len n r (i + 1)
    simp only [pieces, List.length_append, List.length_cons]
    omega
theorem written_len (n : List Nat) : (written n).length ≤ 3 * n.length := (pieces_len n n 0).2
theorem nameOf_piece (n : List Nat) (i : Nat) {c : Nat} (hc : Sign c) (r : List Nat) : nameOf (piece n i c ++ r) = (nameOf r).map (c :: ·) := by
  unfold piece
  split
  · exact nameOf_escC hc r
  · rename_i h
    have h126 : c ≠ 126 := by
      intro e
      apply h
      subst e
      simp [must]
    exact nameOf_plain h126 r
theorem nameOf_pieces (n : List Nat) : ∀ (l : List Nat) (i : Nat), Named l → nameOf (pieces n i l) = some l
  | [], i, _ => rfl
  | c :: r, i, h => by
    rw [pieces, nameOf_piece n i (h c List.mem_cons_self), nameOf_pieces n r (i + 1) fun x hx => h x (List.mem_cons_of_mem _ hx)]
    rfl
theorem nameOf_written {n : List Nat} (h : Named n) : nameOf (written n) = some n := nameOf_pieces n n 0 h
/-! what a written name is not -/
theorem numOf_le (c : Nat) (h : Sign c) : 48 + numOf c / 10 ≤ 57 ∧ 48 + numOf c % 10 ≤ 57 := by
  have := numOf_lt h
  omega
theorem esc_free {c : Nat} (h : Sign c) : 47 ∉ esc c := by
  intro hm
  have := numOf_le c h
  simp [esc] at hm
  omega
theorem piece_free (n : List Nat) (i : Nat) {c : Nat} (h : Sign c) : 47 ∉ piece n i c := by
  unfold piece
  split
  · exact esc_free h
  · rename_i h2
    intro hm
    have e : c = 47 := (List.mem_singleton.mp hm).symm
    apply h2
    subst e
    simp [must]
theorem pieces_free (n : List Nat) : ∀ (l : List Nat) (i : Nat), Named l → 47 ∉ pieces n i l
  | [], i, _ => by simp [pieces]
  | c :: r, i, h => by
    rw [pieces]
    intro hm
    rcases List.mem_append.mp hm with q | q
    · exact piece_free n i (h c List.mem_cons_self) q
    · exact pieces_free n r (i + 1) (fun x hx => h x (List.mem_cons_of_mem _ hx)) q
theorem written_free {n : List Nat} (h : Named n) : 47 ∉ written n := pieces_free n n 0 h
/-- the part's first sign is no @, and the part is no dots and not empty -/
structure PlainPart (p : List Nat) : Prop where
  ne : p ≠ []
  dot : p ≠ [46]
  dots : p ≠ [46, 46]
  at_ : p.head? ≠ some 64
theorem written_plain {n : List Nat} (h0 : n ≠ []) : PlainPart (written n) := by
  match n, h0 with
  | [], h => exact absurd rfl h
  | c :: r, _ =>
    have hw : written (c :: r) = piece (c :: r) 0 c ++ pieces (c :: r) 1 r := rfl
    have hl := pieces_len (c :: r) r 1
    have hp : piece (c :: r) 0 c = esc c ∨ (piece (c :: r) 0 c = [c] ∧ c ≠ 64 ∧ (c :: r) ≠ [46] ∧ (c :: r) ≠ [46, 46]) := by
      unfold piece
      split
      · exact .inl rfl
      · rename_i h
        refine .inr ⟨rfl, ?_, ?_, ?_⟩
        · intro e
          apply h
          simp [must, e]
        · intro e
          apply h
          simp [must, e]
        · intro e
          apply h
          simp [must, e]
    rcases hp with e | ⟨e, h1, h2, h3⟩
    · rw [hw, e]
      constructor
      · simp [esc]
      · simp [esc]
      · simp [esc]
      · simp [esc]
    · rw [hw, e]
      constructor
      · simp
      · intro q
        have q1 : c = 46 := by
          have := congrArg List.head? q
          simpa using this
        have q2 : pieces (c :: r) 1 r = [] := by
          have := congrArg List.tail q
          simpa using this
        have q3 : r = [] := by
          rw [q2] at hl
          exact List.length_eq_zero_iff.mp (by simpa using hl.1)
        exact h2 (by rw [q1, q3])
      · intro q
        have q1 : c = 46 := by
          have := congrArg List.head? q
          simpa using this
        have q2 : pieces (c :: r) 1 r = [46] := by
          have := congrArg List.tail q
          simpa using this
        match r, q2, h2, h3, hl with
        | [], q2, h2, h3, hl => exact absurd (by rw [q1]) h2
        | d :: r, q2, h2, h3, hl =>
          rw [q2] at hl
          have q3 : r = [] := by
            apply List.length_eq_zero_iff.mp
            have := hl.1
            simp only [List.length_cons, List.length_nil] at this
            omega
          subst q3
          have q4 : piece (c :: [d]) 1 d = [46] := by
            have : piece (c :: [d]) 1 d ++ pieces (c :: [d]) 2 [] = [46] := q2
            simpa [pieces] using this
          have q5 : d = 46 := by
            unfold piece at q4
            split at q4
            · simp [esc] at q4
            · simpa using q4
          exact h3 (by rw [q1, q5])
      · simpa using h1
/-! ### steps -/
inductive Step where
  | root | up | share (n : List Nat) | name (n : List Nat)
  deriving DecidableEq
def stepOf (p : List Nat) : Option (List Step) :=
  if p = [] ∨ p = [46] then some [] else if p = [46, 46] then some [.up] else if p.head? = some 64 then (nameOf p.tail).map fun n => [.share n] else (nameOf p).map fun n => [.name n]
def splitS : List Nat → List (List Nat)
  | [] => [[]]
  | c :: r => if c = 47 then [] :: splitS r else (match splitS r with | h :: t => (c :: h) :: t | [] => [[c]])
def joinS : List (List Nat) → List Nat
  | [] => []
  | [x] => x
  | x :: y :: r => x ++ 47 :: joinS (y :: r)
theorem splitS_ne : ∀ l, splitS l ≠ []
  | [] => by simp [splitS]
  | c :: r => by
    rw [splitS]
    split
    · simp
    · split <;> simp
theorem splitS_free : ∀ {p : List Nat}, 47 ∉ p → splitS p = [p]
  | [], _ => rfl
  | c :: r, h => by
    have hc : c ≠ 47 := fun e => h (by rw [e]; exact List.mem_cons_self)
    have hr : 47 ∉ r := fun m => h (List.mem_cons_of_mem _ m)
    rw [splitS, if_neg hc, splitS_free hr]
theorem splitS_app : ∀ {p : List Nat} (r : List Nat), 47 ∉ p → splitS (p ++ 47 :: r) = p :: splitS r
  | [], r, _ => by
    show splitS (47 :: r) = _
    rw [splitS, if_pos rfl]
  | c :: p, r, h => by
    have hc : c ≠ 47 := fun e => h (by rw [e]; exact List.mem_cons_self)
    have hr : 47 ∉ p := fun m => h (List.mem_cons_of_mem _ m)
    rw [List.cons_append, splitS, if_neg hc, splitS_app r hr]
theorem split_join : ∀ {ps : List (List Nat)}, ps ≠ [] → (∀ p ∈ ps, 47 ∉ p) → splitS (joinS ps) = ps
  | [], h, _ => absurd rfl h
  | [x], _, h => splitS_free (h x List.mem_cons_self)
  | x :: y :: r, _, h => by
    rw [joinS, splitS_app _ (h x List.mem_cons_self), split_join (by simp) fun p hp => h p (List.mem_cons_of_mem _ hp)]
theorem join_split : ∀ l, joinS (splitS l) = l
  | [] => rfl
  | c :: r => by
    rw [splitS]
    have ih := join_split r
    split
    · rename_i h
      subst h
      match e : splitS r, splitS_ne r with
      | a :: t, _ =>
        rw [e] at ih
        show [] ++ 47 :: joinS (a :: t) = _
        rw [ih]
        rfl
    · match e : splitS r, splitS_ne r with
      | [a], _ =>
        rw [e] at ih
        show c :: a = _
        have : a = r := ih
        rw [this]
      | a :: b :: t, _ =>
        rw [e] at ih
        show (c :: a) ++ 47 :: joinS (b :: t) = _
        have : a ++ 47 :: joinS (b :: t) = r := ih
        rw [List.cons_append, this]
def rootOf (l : List Nat) : List Step := if l.head? = some 47 then [.root] else []
/-- the steps of parts, in order -/
def stepsP : List (List Nat) → Option (List Step)
  | [] => some []
  | p :: r => match stepOf p with | none => none | some s => (stepsP r).map (s ++ ·)
def stepsOf (l : List Nat) : Option (List Step) := (stepsP (splitS l)).map (rootOf l ++ ·)
theorem stepsP_append : ∀ (a b : List (List Nat)), stepsP (a ++ b) = (match stepsP a with | none => none | some s => (stepsP b).map (s ++ ·))
  | [], b => by
    show stepsP b = (stepsP b).map ([] ++ ·)
    cases stepsP b <;> simp
  | p :: a, b => by
    rw [List.cons_append, stepsP, stepsP]
    cases stepOf p with
    | none => rfl
    | some s =>
      show (stepsP (a ++ b)).map (s ++ ·) = _
      rw [stepsP_append a b]
      cases stepsP a with
      | none => rfl
      | some u =>
        show ((stepsP b).map (u ++ ·)).map (s ++ ·) = (stepsP b).map ((s ++ u) ++ ·)
        cases stepsP b <;> simp
theorem stepOf_name {p n : List Nat} (h : PlainPart p) (e : nameOf p = some n) : stepOf p = some [.name n] := by
  rw [stepOf, if_neg (fun q => q.elim h.ne h.dot), if_neg h.dots, if_neg h.at_, e]
  rfl
theorem stepOf_share {p n : List Nat} (e : nameOf p = some n) : stepOf (64 :: p) = some [.share n] := by
  rw [stepOf, if_neg (by simp), if_neg (by simp), if_pos (by rfl)]
  show (nameOf p).map _ = _
  rw [e]
  rfl
end Pw
namespace Pw
theorem drop_get {α : Type} {l : List α} {i : Nat} {x : α} (h : l[i]? = some x) : l.drop i = x :: l.drop (i + 1) := by
  obtain ⟨h1, e⟩ := List.getElem?_eq_some_iff.mp h
  rw [← e]
  exact List.drop_eq_getElem_cons h1
theorem read_plain {l f : List Nat} {i c : Nat} (h : l[i]? = some c) (hc : c ≠ 126) (inv : nameOf l = (nameOf (l.drop i)).map (f ++ ·)) : nameOf l = (nameOf (l.drop (i + 1))).map ((f ++ [c]) ++ ·) := by
  rw [inv, drop_get h, nameOf_plain hc, Option.map_map]
  congr 1
  funext m
  simp
theorem read_escN {l f : List Nat} {i : Nat} (h : l[i]? = some 126) (hs : signOf ((l.drop (i + 1)).take 2) = none) (inv : nameOf l = (nameOf (l.drop i)).map (f ++ ·)) : nameOf l = none := by
  rw [inv, drop_get h, nameOf_esc, hs]
  rfl
theorem read_escS {l f : List Nat} {i s : Nat} (h : l[i]? = some 126) (hs : signOf ((l.drop (i + 1)).take 2) = some s) (inv : nameOf l = (nameOf (l.drop i)).map (f ++ ·)) : nameOf l = (nameOf (l.drop (i + 3))).map ((f ++ [s]) ++ ·) := by
  rw [inv, drop_get h, nameOf_esc, hs]
  show ((nameOf ((l.drop (i + 1)).drop 2)).map (s :: ·)).map (f ++ ·) = _
  rw [List.drop_drop, Option.map_map]
  congr 1
  funext m
  simp
theorem read_end {l f : List Nat} {i : Nat} (h : l.length ≤ i) (inv : nameOf l = (nameOf (l.drop i)).map (f ++ ·)) : nameOf l = some f := by
  rw [inv, List.drop_of_length_le h]
  simp [nameOf]
theorem signOf_len {l : List Nat} {s : Nat} (h : signOf l = some s) : l.length = 2 := by
  unfold signOf at h
  split at h
  · rfl
  · cases h
theorem signOf_two {a b : Nat} (h1 : fig a = true) (h2 : fig b = true) (h3 : 10 * (a - 48) + (b - 48) < 94) : signOf [a, b] = some (signAt (10 * (a - 48) + (b - 48))) := by
  simp [signOf, two, h1, h2, h3]
theorem signOf_no1 {a b : Nat} (h : ¬ fig a = true) : signOf [a, b] = none := by
  simp [signOf, two, h]
theorem signOf_no2 {a b : Nat} (h : ¬ fig b = true) : signOf [a, b] = none := by
  simp [signOf, two, h]
theorem signOf_no3 {a b : Nat} (h : ¬ 10 * (a - 48) + (b - 48) < 94) : signOf [a, b] = none := by
  simp [signOf, two, h]
end Pw

/-! Rules over texts as lists of codes. -/
namespace Pw
open PySem PySem.Spec PyProof.Rows L2

/-! ### texts -/
abbrev S (l : List Nat) : Str := ⟨l.toArray⟩
def vS (l : List Nat) : V := V.str (S l)
theorem tl_S (l : List Nat) : TL.tl (S l) = l := rfl
theorem S_tl (x : Str) : S (TL.tl x) = x := TL.mk_tl x
theorem S_inj {a b : List Nat} (h : S a = S b) : a = b := by
  have := congrArg TL.tl h
  exact this
theorem S_len (l : List Nat) : (S l).length = l.length := by
  rw [TL.len_tl]
theorem S_app (a b : List Nat) : S a ++ S b = S (a ++ b) := TL.ext_tl (by rw [TL.tl_append])
theorem vS_inj {a b : List Nat} (h : vS a = vS b) : a = b := by
  unfold vS at h
  injection h with h
  exact S_inj h
theorem dec_S (a b : List Nat) : decide (vS a = vS b) = decide (a = b) := by
  by_cases h : a = b
  · subst h
    rw [decide_eq_true rfl, decide_eq_true rfl]
  · rw [decide_eq_false h, decide_eq_false fun e => h (vS_inj e)]
theorem dec_I (a b : Int) : decide (V.int a = V.int b) = decide (a = b) := by
  by_cases h : a = b
  · subst h
    rw [decide_eq_true rfl, decide_eq_true rfl]
  · rw [decide_eq_false h, decide_eq_false fun e => h (V.int.inj e)]
theorem line_ge : 1000000 ≤ sizeLine := by decide
theorem to_line {n : Nat} (h : n ≤ 1000000) : n ≤ sizeLine := Nat.le_trans h line_ge
theorem to_lineL {n : Nat} (h : n < 1000000) : n < sizeLine := Nat.lt_of_lt_of_le h line_ge

/-! ### other words for a rule -/
section
variable {X : Cx} {id : String}
theorem oprI {f : Value → Value → Sem Value} {r r' : R2} (h : OpR X f r) (k : ∀ x y H Q, r' x y H Q → r x y H Q) : OpR X f r' := fun pins s σ H x y v u Q I rx ry q => h pins s σ H x y v u Q I rx ry (k x y H Q q)
theorem callI {f : Value} {r r' : List V → Hp → VK → Prop} (h : CallR X f r) (k : ∀ xs H Q, r' xs H Q → r xs H Q) : CallR X f r' := fun pins s σ H xs us Q I rs q => h pins s σ H xs us Q I rs (k xs H Q q)
theorem mtrI {r r' : V → List V → Hp → VK → Prop} (h : MtR X id r) (k : ∀ x xs H Q, r' x xs H Q → r x xs H Q) : MtR X id r' := fun pins s σ H x xs v us Q I rx rs q => h pins s σ H x xs v us Q I rx rs (k x xs H Q q)
theorem ixrI {r r' : R2} (h : IxR X r) (k : ∀ x y H Q, r' x y H Q → r x y H Q) : IxR X r' := fun value slice pins s σ H x y v u Q I rx ry q z => h value slice pins s σ H x y v u Q I rx ry (k x y H Q q) z
theorem slrI {r r' : V → Option Int → Option Int → Hp → VK → Prop} (h : SlR X r) (k : ∀ x a b H Q, r' x a b H Q → r x a b H Q) : SlR X r' := fun pins s σ H x v vl vu lo hi sl Q I rx hs pl pu q => h pins s σ H x v vl vu lo hi sl Q I rx hs pl pu (k x lo hi H Q q)
end

/-! ### reading, step by step -/
section
variable {σ : L2.St} {H : Hp} {Q : VK} {x y v : V} {ta tb te : TE}
theorem i_var {i : Nat} (h : σ[i]? = some (some v)) (q : Q v H) : tVar i σ H Q := ⟨v, h, q⟩
theorem i_c (q : Q v H) : tC v σ H Q := q
theorem i_op {r : R2} (h : ta σ H fun x H1 => tb σ H1 fun y H2 => r x y H2 Q) : tOp r ta tb σ H Q := h
theorem i_un {r : V → Hp → VK → Prop} (h : ta σ H fun x H1 => r x H1 Q) : tUn r ta σ H Q := h
theorem i_I0 {g : Int → Int → V} {i j : Int} (q : Q (g i j) H) : rI0 g (.int i) (.int j) H Q := ⟨i, j, rfl, rfl, q⟩
theorem i_I {C : Int → Int → Prop} {g : Int → Int → V} {i j : Int} (c : C i j) (q : Q (g i j) H) : rI C g (.int i) (.int j) H Q := ⟨i, j, rfl, rfl, c, q⟩
theorem i_test {t : TE} {Q : Bool → Hp → Prop} (h : t σ H fun x H' => ∃ k, x = .bl k ∧ Q k H') : tTest t σ H Q := h
theorem i_tB {t : TE} {Q : Bool → Hp → Prop} (h : t σ H fun x H' => ∃ k, x = .bl k ∧ Q k H') : tB t σ H Q := h
theorem i_bl {P : Bool → Prop} {b : Bool} (q : P b) : ∃ k, V.bl b = V.bl k ∧ P k := ⟨b, rfl, q⟩
theorem i_int {P : Int → Prop} {b : Int} (q : P b) : ∃ k, V.int b = V.int k ∧ P k := ⟨b, rfl, q⟩
theorem i_cb {r : List V → Hp → VK → Prop} {t : TA} (h : t σ H fun vs H1 => r vs H1 Q) : tCB r t σ H Q := h
theorem i_call {sp : Sp} {E : L2.St → XK} {t : TA} (h : t σ H fun vs H1 => sp vs H1 Q (E σ)) : tCallS sp E t σ H Q := h
theorem i_nil {Q : List V → Hp → Prop} (q : Q [] H) : tNil σ H Q := q
theorem i_cons {ta : TE} {tr : TA} {Q : List V → Hp → Prop} (h : ta σ H fun x H1 => tr σ H1 fun xs H2 => Q (x :: xs) H2) : tCons ta tr σ H Q := h
theorem i_and {t u : TT} {Q : Bool → Hp → Prop} (h : t σ H fun c H1 => if c = true then u σ H1 Q else Q false H1) : tAnd t u σ H Q := h
theorem i_or {t u : TT} {Q : Bool → Hp → Prop} (h : t σ H fun c H1 => if c = true then Q true H1 else u σ H1 Q) : tOr t u σ H Q := h
theorem i_not {t : TT} {Q : Bool → Hp → Prop} (h : t σ H fun c H1 => Q (!c) H1) : tNot t σ H Q := h
theorem i_andV {ta tb : TE} (h : ta σ H fun x H1 => ∃ c, x = .bl c ∧ if c = true then tb σ H1 Q else Q (.bl false) H1) : tAndV ta tb σ H Q := h
theorem i_orV {ta tb : TE} (h : ta σ H fun x H1 => ∃ c, x = .bl c ∧ if c = true then Q (.bl true) H1 else tb σ H1 Q) : tOrV ta tb σ H Q := h
theorem i_notV {ta : TE} (h : ta σ H fun x H1 => ∃ c, x = .bl c ∧ Q (.bl (!c)) H1) : tNotV ta σ H Q := h
theorem i_ifE {t : TT} {ta tb : TE} (h : t σ H fun c H1 => if c = true then ta σ H1 Q else tb σ H1 Q) : tIf t ta tb σ H Q := h
theorem i_none (q : ∀ Q' : Option Int → Hp → Prop, Q' none H → Q' none H) : True := trivial
theorem i_nopart {Q : Option Int → Hp → Prop} (q : Q none H) : tNoPart σ H Q := q
theorem i_part {te : TE} {Q : Option Int → Hp → Prop} (h : te σ H fun x H1 => ∃ i, x = .int i ∧ Q (some i) H1) : tPart te σ H Q := h
theorem i_sl {r : V → Option Int → Option Int → Hp → VK → Prop} {te : TE} {tl th : TO} (h : te σ H fun x H1 => tl σ H1 fun l H2 => th σ H2 fun u H3 => r x l u H3 Q) : tSl r te tl th σ H Q := h
theorem i_bm {K : PySem.W.Frag} {T : String} {r : V → List V → Hp → VK → Prop} {to : TE} {t : TA} (h : to σ H fun x H1 => tyV K T x H1 ∧ t σ H1 fun xs H2 => r x xs H2 Q) : tBM K T r to t σ H Q := h
theorem i_m1 {r : V → List V → Hp → VK → Prop} {to te : TE} (h : to σ H fun x H1 => (∃ a, x = .str a) ∧ te σ H1 fun y H2 => r x [y] H2 Q) : tM1 r to te σ H Q := h
theorem i_strof {A : Prop} {l : List Nat} (h : A) : (∃ a, vS l = V.str a) ∧ A := ⟨⟨_, rfl⟩, h⟩
theorem i_tyS {A : Prop} {K : PySem.W.Frag} {l : List Nat} (h : A) : tyV K "str" (vS l) H ∧ A := ⟨rfl, h⟩
/-! statements -/
variable {D : Ends}
theorem i_seq {t u : TS} (h : t { D with nx := u D } σ H) : tSeq t u D σ H := h
theorem i_next (h : D.nx σ H) : tNext D σ H := h
theorem i_asg {te : TE} {g : TG} (h : te σ H fun x H1 => g x σ H1 D.nx) : tAsg te g D σ H := h
theorem i_name {i : Nat} {Q : L2.St → Hp → Prop} {v : V} (h : Q (σ.set i (some v)) H) : gName i v σ H Q := h
theorem i_ret {te : TE} (h : te σ H D.rt) : tRet te D σ H := h
theorem i_drop {te : TE} (h : te σ H fun _ H1 => D.nx σ H1) : tDrop te D σ H := h
theorem i_if {c : TT} {t u : TS} (h : c σ H fun b H1 => if b = true then t D σ H1 else u D σ H1) : tIfS c t u D σ H := h
theorem i_for {wi : TI} {g : TG} {tb : TS} (h : wi σ H fun J H1 => ∃ W : Nat → Nat → L2.St → Hp → Prop, (∃ m, W 0 m σ H1) ∧ ∀ i m σ H, W i m σ H →
    (J.stop i H ∧ D.nx σ H) ∨ (J.go i H ∧ ∃ N : L2.St → Hp → Prop, (∀ σ' H', N σ' H' → ∃ m', m' < m ∧ W (i + 1) m' σ' H') ∧ ∀ x H', J.yld i H x H' → g x σ H' fun σ2 H2 => tb { D with nx := N, ct := N, bk := D.nx } σ2 H2)) : tFor wi g tb D σ H := h
theorem i_rng1 {ta : TA} {R : It → Hp → Prop} (h : ta σ H fun vs H1 => ∃ j : Int, vs = [.int j] ∧ -(2 ^ 62) ≤ j ∧ j < 2 ^ 62 ∧ R (Itr 0 j.toNat) H1) : iRng1 ta σ H R := h
theorem i_rng {P : Int → Prop} {j : Int} (h0 : -(2 ^ 62) ≤ j ∧ j < 2 ^ 62) (h : P j) : ∃ j' : Int, [V.int j] = [.int j'] ∧ -(2 ^ 62) ≤ j' ∧ j' < 2 ^ 62 ∧ P j' := ⟨j, rfl, h0.1, h0.2, h⟩
theorem i_list {K : PySem.W.Frag} {tl : TE} {R : It → Hp → Prop} (h : tl σ H fun x H1 => ∃ a, x = .ref a ∧ (∃ xs, SqL K H1 a xs) ∧ R (Itl K a) H1) : iList K tl σ H R := h
theorem i_tup {t : TA} (h : t σ H fun xs H1 => xs.length ≤ sizeLine ∧ ∀ p, H1 p = none → Q (.ref p) (upd H1 p (.tup xs))) : tTup t σ H Q := h
theorem i_lst {t : TA} (h : t σ H fun xs H1 => xs.length ≤ sizeLine ∧ ∀ p, H1 p = none → Q (.ref p) (upd H1 p (.lst xs))) : tLst t σ H Q := h
end
/-- an if whose test is a decision -/
theorem i_ifD {c A B : Prop} [Decidable c] (h1 : c → A) (h2 : ¬ c → B) : if decide c = true then A else B := by
  by_cases h : c
  · rw [decide_eq_true h, if_pos rfl]
    exact h1 h
  · rw [decide_eq_false h, if_neg Bool.false_ne_true]
    exact h2 h
theorem i_ifN {c A B : Prop} [Decidable c] (h1 : ¬ c → A) (h2 : c → B) : if (!decide c) = true then A else B := by
  by_cases h : c
  · rw [decide_eq_true h]
    exact h2 h
  · rw [decide_eq_false h]
    exact h1 h
theorem i_ifB {b : Bool} {A B : Prop} (h1 : b = true → A) (h2 : b = false → B) : if b = true then A else B := by
  cases b with
  | true => exact h1 rfl
  | false => exact h2 rfl

/-! ### texts: rules -/
section
variable {X : Cx}
theorem pe_lit {x : Str} {j : Nat} {pos : Pos} (l : List Nat) (h : x = S l) : PE X (.Constant (.str x) j pos) (tC (vS l)) := by
  subst h
  exact pe_str
def qAddS : R2 := fun x y H Q => ∃ a b : List Nat, x = vS a ∧ y = vS b ∧ a.length + b.length ≤ 1000000 ∧ Q (vS (a ++ b)) H
theorem i_addS {a b : List Nat} {H : Hp} {Q : VK} (h : a.length + b.length ≤ 1000000) (q : Q (vS (a ++ b)) H) : qAddS (vS a) (vS b) H Q := ⟨a, b, rfl, rfl, h, q⟩
theorem op_addS : OpR X (binaryOp .Add) qAddS := oprI op_add_str (by
  rintro x y H Q ⟨a, b, rfl, rfl, h, q⟩
  refine ⟨S a, S b, rfl, rfl, ?_, ?_⟩
  · rw [S_len, S_len]
    exact to_line h
  · rw [S_app]
    exact q)
def qEqS : R2 := fun x y H Q => ∃ a b : List Nat, x = vS a ∧ y = vS b ∧ Q (.bl (decide (a = b))) H
theorem i_eqS {a b : List Nat} {H : Hp} {Q : VK} (q : Q (.bl (decide (a = b))) H) : qEqS (vS a) (vS b) H Q := ⟨a, b, rfl, rfl, q⟩
theorem op_eqS : OpR X (compareOp .Eq) qEqS := oprI op_eq (by
  rintro x y H Q ⟨a, b, rfl, rfl, q⟩
  exact ⟨rfl, by rw [dec_S]; exact q⟩)
def qNeS : R2 := fun x y H Q => ∃ a b : List Nat, x = vS a ∧ y = vS b ∧ Q (.bl (!decide (a = b))) H
theorem i_neS {a b : List Nat} {H : Hp} {Q : VK} (q : Q (.bl (!decide (a = b))) H) : qNeS (vS a) (vS b) H Q := ⟨a, b, rfl, rfl, q⟩
theorem op_neS : OpR X (compareOp .NotEq) qNeS := oprI op_ne (by
  rintro x y H Q ⟨a, b, rfl, rfl, q⟩
  exact ⟨rfl, by rw [dec_S]; exact q⟩)
def qEqI : R2 := fun x y H Q => ∃ a b : Int, x = .int a ∧ y = .int b ∧ Q (.bl (decide (a = b))) H
theorem i_eqI {a b : Int} {H : Hp} {Q : VK} (q : Q (.bl (decide (a = b))) H) : qEqI (.int a) (.int b) H Q := ⟨a, b, rfl, rfl, q⟩
theorem op_eqI : OpR X (compareOp .Eq) qEqI := oprI op_eq (by
  rintro x y H Q ⟨a, b, rfl, rfl, q⟩
  exact ⟨rfl, by rw [dec_I]; exact q⟩)
def qNeI : R2 := fun x y H Q => ∃ a b : Int, x = .int a ∧ y = .int b ∧ Q (.bl (!decide (a = b))) H
theorem i_neI {a b : Int} {H : Hp} {Q : VK} (q : Q (.bl (!decide (a = b))) H) : qNeI (.int a) (.int b) H Q := ⟨a, b, rfl, rfl, q⟩
theorem op_neI : OpR X (compareOp .NotEq) qNeI := oprI op_ne (by
  rintro x y H Q ⟨a, b, rfl, rfl, q⟩
  exact ⟨rfl, by rw [dec_I]; exact q⟩)
/-- x is None, x any value -/
def qIsN : R2 := fun x y H Q => y = .non ∧ Q (.bl (decide (x = .non))) H
theorem i_isN {x : V} {H : Hp} {Q : VK} (q : Q (.bl (decide (x = .non))) H) : qIsN x .non H Q := ⟨rfl, q⟩
theorem op_isN' : OpR X (compareOp .Is) qIsN := op_isN
/-- products with one side bounded -/
def qMulL : R2 := fun x y H Q => ∃ i j : Int, x = .int i ∧ y = .int j ∧ (-(2 ^ 62) ≤ i ∧ i ≤ 2 ^ 62) ∧ Q (.int (i * j)) H
theorem i_mulL {i j : Int} {H : Hp} {Q : VK} (h : -(2 ^ 62) ≤ i ∧ i ≤ 2 ^ 62) (q : Q (.int (i * j)) H) : qMulL (.int i) (.int j) H Q := ⟨i, j, rfl, rfl, h, q⟩
theorem op_mulL' : OpR X (binaryOp .Mult) qMulL := oprI op_mul (by
  rintro x y H Q ⟨i, j, rfl, rfl, h, q⟩
  exact ⟨i, j, rfl, rfl, .inl (by omega), q⟩)
def qMulR : R2 := fun x y H Q => ∃ i j : Int, x = .int i ∧ y = .int j ∧ (-(2 ^ 62) ≤ j ∧ j ≤ 2 ^ 62) ∧ Q (.int (i * j)) H
theorem i_mulR {i j : Int} {H : Hp} {Q : VK} (h : -(2 ^ 62) ≤ j ∧ j ≤ 2 ^ 62) (q : Q (.int (i * j)) H) : qMulR (.int i) (.int j) H Q := ⟨i, j, rfl, rfl, h, q⟩
theorem op_mulR' : OpR X (binaryOp .Mult) qMulR := oprI op_mul (by
  rintro x y H Q ⟨i, j, rfl, rfl, h, q⟩
  exact ⟨i, j, rfl, rfl, .inr (by omega), q⟩)
/-- floor division and rest by a positive number below 2 ^ 30 -/
def qDiv : R2 := fun x y H Q => ∃ i j : Int, x = .int i ∧ y = .int j ∧ (0 < j ∧ j < 1073741824) ∧ Q (.int (i / j)) H
theorem i_div {i j : Int} {H : Hp} {Q : VK} (h : 0 < j ∧ j < 1073741824) (q : Q (.int (i / j)) H) : qDiv (.int i) (.int j) H Q := ⟨i, j, rfl, rfl, h, q⟩
theorem op_div' : OpR X (binaryOp .FloorDiv) qDiv := oprI op_fdiv (by
  rintro x y H Q ⟨i, j, rfl, rfl, h, q⟩
  exact ⟨i, j, rfl, rfl, h, q⟩)
def qMod : R2 := fun x y H Q => ∃ i j : Int, x = .int i ∧ y = .int j ∧ 0 < j ∧ Q (.int (i % j)) H
theorem i_mod {i j : Int} {H : Hp} {Q : VK} (h : 0 < j) (q : Q (.int (i % j)) H) : qMod (.int i) (.int j) H Q := ⟨i, j, rfl, rfl, h, q⟩
theorem op_mod' : OpR X (binaryOp .Mod) qMod := oprI op_mod (by
  rintro x y H Q ⟨i, j, rfl, rfl, h, q⟩
  exact ⟨i, j, rfl, rfl, h, q⟩)
/-- s[i], 0 ≤ i -/
def qIxS : R2 := fun x y H Q => ∃ (l : List Nat) (i : Nat) (c : Nat), x = vS l ∧ y = .int (i : Int) ∧ l.length ≤ 1000000 ∧ l[i]? = some c ∧ Q (vS [c]) H
theorem i_ixS {l : List Nat} {z : Int} {i c : Nat} {H : Hp} {Q : VK} (e : z = (i : Int)) (hl : l.length ≤ 1000000) (h : l[i]? = some c) (q : Q (vS [c]) H) : qIxS (vS l) (.int z) H Q := ⟨l, i, c, rfl, by rw [e], hl, h, q⟩
theorem ix_S : IxR X qIxS := ixrI ix_str (by
  rintro x y H Q ⟨l, i, c, rfl, rfl, hl, h, q⟩
  exact ⟨S l, i, c, rfl, rfl, by rw [S_len]; exact to_line hl, atI_nat h, q⟩)
/-- xs[i], t[i], 0 ≤ i -/
def qIxL (K : PySem.W.Frag) : R2 := fun x y H Q => ∃ (p : Addr) (xs : List V) (i : Nat) (v : V), x = .ref p ∧ y = .int (i : Int) ∧ SqL K H p xs ∧ xs[i]? = some v ∧ Q v H
theorem i_ixL {K : PySem.W.Frag} {p : Addr} {xs : List V} {z : Int} {i : Nat} {v : V} {H : Hp} {Q : VK} (e : z = (i : Int)) (hl : SqL K H p xs) (h : xs[i]? = some v) (q : Q v H) : qIxL K (.ref p) (.int z) H Q := ⟨p, xs, i, v, rfl, by rw [e], hl, h, q⟩
theorem ix_L : IxR X (qIxL X.K) := ixrI ix_list (by
  rintro x y H Q ⟨p, xs, i, v, rfl, rfl, hl, h, q⟩
  exact ⟨p, xs, i, v, rfl, rfl, hl, atI_nat h, q⟩)
def qIxT (K : PySem.W.Frag) : R2 := fun x y H Q => ∃ (p : Addr) (xs : List V) (i : Nat) (v : V), x = .ref p ∧ y = .int (i : Int) ∧ SqT K H p xs ∧ xs[i]? = some v ∧ Q v H
theorem i_ixT {K : PySem.W.Frag} {p : Addr} {xs : List V} {z : Int} {i : Nat} {v : V} {H : Hp} {Q : VK} (e : z = (i : Int)) (hl : SqT K H p xs) (h : xs[i]? = some v) (q : Q v H) : qIxT K (.ref p) (.int z) H Q := ⟨p, xs, i, v, rfl, by rw [e], hl, h, q⟩
theorem ix_T : IxR X (qIxT X.K) := ixrI ix_tup (by
  rintro x y H Q ⟨p, xs, i, v, rfl, rfl, hl, h, q⟩
  exact ⟨p, xs, i, v, rfl, rfl, hl, atI_nat h, q⟩)
/-- slices with bounds that are not negative -/
def cutN {α : Type} (l : List α) (lo hi : Option Int) : List α := (l.drop (HT.sIx l.length 0 lo)).take (HT.sIx l.length l.length hi - HT.sIx l.length 0 lo)
theorem cutN_from {α : Type} (l : List α) (k : Nat) : cutN l (some (k : Int)) none = l.drop k := by
  unfold cutN
  rw [HT.sIx_none, HT.sIx_nat]
  by_cases h : k ≤ l.length
  · rw [Nat.min_eq_left h, List.take_of_length_le]
    rw [List.length_drop]
    exact Nat.le_refl _
  · have h' : l.length ≤ k := by omega
    rw [Nat.min_eq_right h', List.drop_of_length_le (Nat.le_refl _), List.drop_of_length_le h', List.take_nil]
theorem cutN_to {α : Type} (l : List α) (k : Nat) : cutN l none (some (k : Int)) = l.take k := by
  unfold cutN
  rw [HT.sIx_none, HT.sIx_nat, List.drop_zero, Nat.sub_zero]
  by_cases h : k ≤ l.length
  · rw [Nat.min_eq_left h]
  · have h' : l.length ≤ k := by omega
    rw [Nat.min_eq_right h', List.take_of_length_le (Nat.le_refl _), List.take_of_length_le h']
theorem cutN_both {α : Type} (l : List α) (k n : Nat) : cutN l (some (k : Int)) (some ((k + n : Nat) : Int)) = (l.drop k).take n := by
  unfold cutN
  rw [HT.sIx_nat, HT.sIx_nat]
  by_cases h : k ≤ l.length
  · rw [Nat.min_eq_left h]
    by_cases h2 : k + n ≤ l.length
    · rw [Nat.min_eq_left h2, Nat.add_sub_cancel_left]
    · have h3 : l.length ≤ k + n := by omega
      rw [Nat.min_eq_right h3, List.take_of_length_le (by rw [List.length_drop]; exact Nat.le_refl _), List.take_of_length_le]
      rw [List.length_drop]
      omega
  · have h' : l.length ≤ k := by omega
    rw [Nat.min_eq_right h', List.drop_of_length_le (Nat.le_refl _), List.drop_of_length_le h', List.take_nil, List.take_nil]
theorem cutN_last {α : Type} (l : List α) : cutN l none (some (-1)) = l.dropLast := by
  unfold cutN
  rw [HT.sIx_none, List.drop_zero, Nat.sub_zero, List.dropLast_eq_take]
  show List.take (if (-1 : Int) < 0 then ((-1 : Int) + (l.length : Int)).toNat else min (-1 : Int).toNat l.length) l = _
  rw [if_pos (by decide)]
  congr 1
  omega
def qSlS : V → Option Int → Option Int → Hp → VK → Prop := fun x lo hi H Q => ∃ l : List Nat, x = vS l ∧ l.length ≤ 1000000 ∧ Q (vS (cutN l lo hi)) H
theorem i_slS {l : List Nat} {lo hi : Option Int} {H : Hp} {Q : VK} (hl : l.length ≤ 1000000) (q : Q (vS (cutN l lo hi)) H) : qSlS (vS l) lo hi H Q := ⟨l, rfl, hl, q⟩
theorem sl_S : SlR X qSlS := slrI sl_str (by
  rintro x lo hi H Q ⟨l, rfl, hl, q⟩
  refine ⟨S l, rfl, by rw [S_len]; exact to_line hl, ?_⟩
  have e : cutS (S l) lo hi = S (cutN l lo hi) := by
    unfold cutS cutN
    rw [S_len]
  rw [e]
  exact q)
theorem cutV_N (xs : List V) (lo hi : Option Int) : cutV xs lo hi = cutN xs lo hi := rfl
/-- a sign in a text -/
def qInS : R2 := fun x y H Q => ∃ (c : Nat) (l : List Nat), x = vS [c] ∧ y = vS l ∧ Q (.bl (decide (c ∈ l))) H
theorem i_inS {c : Nat} {l : List Nat} {H : Hp} {Q : VK} (q : Q (.bl (decide (c ∈ l))) H) : qInS (vS [c]) (vS l) H Q := ⟨c, l, rfl, rfl, q⟩
theorem op_inS' : OpR X (compareOp .In) qInS := oprI op_in_sign (by
  rintro x y H Q ⟨c, l, rfl, rfl, q⟩
  exact ⟨c, S l, rfl, rfl, q⟩)
def qNiS : R2 := fun x y H Q => ∃ (c : Nat) (l : List Nat), x = vS [c] ∧ y = vS l ∧ Q (.bl (!decide (c ∈ l))) H
theorem i_niS {c : Nat} {l : List Nat} {H : Hp} {Q : VK} (q : Q (.bl (!decide (c ∈ l))) H) : qNiS (vS [c]) (vS l) H Q := ⟨c, l, rfl, rfl, q⟩
theorem op_niS' : OpR X (compareOp .NotIn) qNiS := oprI op_notIn_sign (by
  rintro x y H Q ⟨c, l, rfl, rfl, q⟩
  exact ⟨c, S l, rfl, rfl, q⟩)
/-- len of a text -/
def qLenS : List V → Hp → VK → Prop := fun xs H Q => ∃ l : List Nat, xs = [vS l] ∧ l.length ≤ 1000000 ∧ Q (.int (l.length : Int)) H
theorem i_lenS {l : List Nat} {H : Hp} {Q : VK} (h : l.length ≤ 1000000) (q : Q (.int (l.length : Int)) H) : qLenS [vS l] H Q := ⟨l, rfl, h, q⟩
theorem call_lenS : CallR X (.builtin "len") qLenS := callI call_len_str (by
  rintro xs H Q ⟨l, rfl, h, q⟩
  exact ⟨S l, rfl, by rw [S_len]; exact to_line h, by rw [S_len]; exact q⟩)
/-- len of a list -/
def qLenL (K : PySem.W.Frag) : List V → Hp → VK → Prop := fun xs H Q => ∃ (p : Addr) (ys : List V), xs = [.ref p] ∧ SqL K H p ys ∧ Q (.int (ys.length : Int)) H
theorem i_lenL {K : PySem.W.Frag} {p : Addr} {ys : List V} {H : Hp} {Q : VK} (h : SqL K H p ys) (q : Q (.int (ys.length : Int)) H) : qLenL K [.ref p] H Q := ⟨p, ys, rfl, h, q⟩
theorem call_lenL : CallR X (.builtin "len") (qLenL X.K) := callI call_len_seq (by
  rintro xs H Q ⟨p, ys, rfl, h, q⟩
  exact ⟨p, ys, rfl, .inl h, q⟩)
/-- text.index(sign) -/
theorem occ_signs : ∀ c ∈ signs, Builtin.Str.occurrences (S signs) (S [c]) 0 94 1 = [numOf c] := by decide +kernel
def figs : List Nat := [48, 49, 50, 51, 52, 53, 54, 55, 56, 57]
theorem occ_figs : ∀ c ∈ figs, Builtin.Str.occurrences (S figs) (S [c]) 0 10 1 = [c - 48] := by decide +kernel
theorem mem_figs {c : Nat} : c ∈ figs ↔ fig c = true := by
  unfold figs fig
  simp only [List.mem_cons, List.not_mem_nil, or_false, decide_eq_true_eq]
  omega
def qIxSigns : V → List V → Hp → VK → Prop := fun x xs H Q => ∃ c : Nat, x = vS signs ∧ xs = [vS [c]] ∧ Sign c ∧ Q (.int (numOf c : Int)) H
theorem i_ixSigns {c : Nat} {H : Hp} {Q : VK} (h : Sign c) (q : Q (.int (numOf c : Int)) H) : qIxSigns (vS signs) [vS [c]] H Q := ⟨c, rfl, rfl, h, q⟩
theorem mt_ixSigns : MtR X "str.index" qIxSigns := mtrI mt_sindex (by
  rintro x xs H Q ⟨c, rfl, rfl, h, q⟩
  exact ⟨S signs, S [c], numOf c, [], rfl, rfl, occ_signs c h, q⟩)
def qIxFigs : V → List V → Hp → VK → Prop := fun x xs H Q => ∃ c : Nat, x = vS figs ∧ xs = [vS [c]] ∧ c ∈ figs ∧ Q (.int ((c - 48 : Nat) : Int)) H
theorem i_ixFigs {c : Nat} {H : Hp} {Q : VK} (h : c ∈ figs) (q : Q (.int ((c - 48 : Nat) : Int)) H) : qIxFigs (vS figs) [vS [c]] H Q := ⟨c, rfl, rfl, h, q⟩
theorem mt_ixFigs : MtR X "str.index" qIxFigs := mtrI mt_sindex (by
  rintro x xs H Q ⟨c, rfl, rfl, h, q⟩
  exact ⟨S figs, S [c], c - 48, [], rfl, rfl, occ_figs c h, q⟩)
/-- str(n) of a figure; str(n).zfill(2) -/
def qStrD : List V → Hp → VK → Prop := fun xs H Q => ∃ n : Nat, xs = [.int (n : Int)] ∧ n < 10 ∧ Q (vS [48 + n]) H
theorem i_strD {z : Int} {n : Nat} {H : Hp} {Q : VK} (e : z = (n : Int)) (h : n < 10) (q : Q (vS [48 + n]) H) : qStrD [.int z] H Q := ⟨n, by rw [e], h, q⟩
theorem num_str : ∀ n < 10, (Str.ofString (toString ((n : Nat) : Int))) = S [48 + n] := by decide +kernel
theorem call_strD : CallR X (.type "str") qStrD := callI call_str_int (by
  rintro xs H Q ⟨n, rfl, h, q⟩
  refine ⟨n, rfl, ?_, ?_⟩
  · have : ∀ n < 10, ((n : Nat) : Int).natAbs.log2 < 1920 := by decide
    exact this n h
  · rw [num_str n h]
    exact q)
/-- str(n), n below 94 -/
def numS (n : Nat) : List Nat := if n < 10 then [48 + n] else [48 + n / 10, 48 + n % 10]
theorem numS_str : ∀ n < 94, (Str.ofString (toString ((n : Nat) : Int))) = S (numS n) := by decide +kernel
def qStrN : List V → Hp → VK → Prop := fun xs H Q => ∃ n : Nat, xs = [.int (n : Int)] ∧ n < 94 ∧ Q (vS (numS n)) H
theorem i_strN {z : Int} {n : Nat} {H : Hp} {Q : VK} (e : z = (n : Int)) (h : n < 94) (q : Q (vS (numS n)) H) : qStrN [.int z] H Q := ⟨n, by rw [e], h, q⟩
theorem call_strN : CallR X (.type "str") qStrN := callI call_str_int (by
  rintro xs H Q ⟨n, rfl, h, q⟩
  refine ⟨n, rfl, ?_, ?_⟩
  · have : ∀ n < 94, ((n : Nat) : Int).natAbs.log2 < 1920 := by decide
    exact this n h
  · rw [numS_str n h]
    exact q)
theorem zfill_num : ∀ n < 94, Txt.zfill (S (numS n)) 2 = S [48 + n / 10, 48 + n % 10] := by decide +kernel
def qZf2 : V → List V → Hp → VK → Prop := fun x xs H Q => ∃ n : Nat, x = vS (numS n) ∧ xs = [.int 2] ∧ n < 94 ∧ Q (vS [48 + n / 10, 48 + n % 10]) H
theorem i_zf2 {n : Nat} {H : Hp} {Q : VK} (h : n < 94) (q : Q (vS [48 + n / 10, 48 + n % 10]) H) : qZf2 (vS (numS n)) [.int 2] H Q := ⟨n, rfl, rfl, h, q⟩
theorem mt_zf2 : MtR X "str.zfill" qZf2 := mtrI mt_zfill (by
  rintro x xs H Q ⟨n, rfl, rfl, h, q⟩
  refine ⟨S (numS n), 2, rfl, rfl, by decide +kernel, ?_⟩
  rw [zfill_num n h]
  exact q)
/-- int(two figures) -/
theorem int_two : ∀ a < 10, ∀ b < 10, intText? (S [48 + a, 48 + b]) = some ((10 * a + b : Nat) : Int) := by decide +kernel
def qInt2 : List V → Hp → VK → Prop := fun xs H Q => ∃ a b : Nat, xs = [vS [a, b]] ∧ a ∈ figs ∧ b ∈ figs ∧ Q (.int ((10 * (a - 48) + (b - 48) : Nat) : Int)) H
theorem i_int2 {a b : Nat} {H : Hp} {Q : VK} (ha : a ∈ figs) (hb : b ∈ figs) (q : Q (.int ((10 * (a - 48) + (b - 48) : Nat) : Int)) H) : qInt2 [vS [a, b]] H Q := ⟨a, b, rfl, ha, hb, q⟩
theorem call_int2 : CallR X (.type "int") qInt2 := callI call_int_str (by
  rintro xs H Q ⟨a, b, rfl, ha, hb, q⟩
  have h1 := mem_figs.mp ha
  have h2 := mem_figs.mp hb
  unfold fig at h1 h2
  have h1 := of_decide_eq_true h1
  have h2 := of_decide_eq_true h2
  refine ⟨S [a, b], _, rfl, ?_, by rw [S_len]; show 2 ≤ 640; decide, q⟩
  have e := int_two (a - 48) (by omega) (b - 48) (by omega)
  rw [show 48 + (a - 48) = a by omega, show 48 + (b - 48) = b by omega] at e
  exact e)
/-- int(flag) -/
def qIntB : List V → Hp → VK → Prop := fun xs H Q => ∃ k : Bool, xs = [.bl k] ∧ Q (.int (if k then 1 else 0)) H
theorem i_intB {k : Bool} {H : Hp} {Q : VK} (q : Q (.int (if k then 1 else 0)) H) : qIntB [.bl k] H Q := ⟨k, rfl, q⟩
theorem call_intB : CallR X (.type "int") qIntB := callI call_int1 (by
  rintro xs H Q ⟨k, rfl, q⟩
  exact .inr ⟨k, rfl, q⟩)
/-- text * n -/
def repL (n : Nat) (l : List Nat) : List Nat := (List.replicate n l).flatten
def qMulS : R2 := fun x y H Q => ∃ (l : List Nat) (n : Nat), x = vS l ∧ y = .int (n : Int) ∧ l.length * n ≤ 1000000 ∧ n ≤ 1000000 ∧ Q (vS (repL n l)) H
theorem i_mulS {l : List Nat} {z : Int} {n : Nat} {H : Hp} {Q : VK} (e : z = (n : Int)) (h1 : l.length * n ≤ 1000000) (h2 : n ≤ 1000000) (q : Q (vS (repL n l)) H) : qMulS (vS l) (.int z) H Q := ⟨l, n, rfl, by rw [e], h1, h2, q⟩
theorem foldl_rep (l : List Nat) : ∀ (n : Nat) (acc : Array Nat), ((List.replicate n l.toArray).foldl (· ++ ·) acc).toList = acc.toList ++ repL n l
  | 0, acc => by simp [repL]
  | n + 1, acc => by
    rw [List.replicate_succ, List.foldl_cons, foldl_rep l n]
    simp [repL, List.replicate_succ]
end
end Pw

/-! Calls of defs, of text methods; more rules. -/
namespace Pw
open PySem PySem.Spec PyProof.Rows L2
/-- the addresses of the program's classes -/
structure Ad where
  P : Addr
  B : Addr
  N : Addr
  R : Addr
  Sh : Addr
/-- the def that the module's name x stands for keeps the promise sp -/
structure Fn (P : Program) (w : World) (K : PySem.W.Frag) (mg : Str → Option Value) (base : Heap) (CX : CXT) (k : Nat) (x : Str) (sp : Sp) : Prop where
  ex : ∃ f fd ps, FnOk P w K mg base CX k f fd ps sp ∧ mg x = some (.ref f) ∧ PySem.W.keepIn K (.ref f) = true ∧ Binds K fd ps []
section
variable {X : Cx} {k j : Nat} {x : Str} {sp : Sp} {W : WX} {p pos : Pos} {e : Expr} {es : List Expr} {t : TA}
/-- a call of a def that no exception leaves -/
theorem pe_fn0 (c : Fn X.prog X.w X.K X.mg X.base CX0 k x sp) (hr : Room j X.A) (hk : k ≤ j) (hg : Gl X x) (ha : PA X (e :: es) t) (hdb : (x == ("__debug__" : Str)) = false := by decide) (he : starEach (e :: es) X.env = (false, eval e X.env) :: starEach es X.env := by rfl)
    (hpl : (backTo pos (starEach es X.env)).any (·.1) = false := by rfl) : PE X (.Call (.Name x p) (e :: es) [] pos) (tCallS sp (fun _ => E0) t) := by
  obtain ⟨f, fd, ps, F, hm, kp, hb⟩ := c.ex
  exact pe_callS F (hr.mono hk) hg hm kp hb (fun _ _ _ _ _ _ _ h => h.elim) ha hdb he hpl
/-- a call of a def that may raise -/
theorem pe_fnX (c : Fn X.prog X.w X.K X.mg X.base (L2.CX X.prog X.w) k x sp) (hr : Room j X.A) (hk : k ≤ j) (tk : Takes X W) (hg : Gl X x) (ha : PA X (e :: es) t) (hdb : (x == ("__debug__" : Str)) = false := by decide)
    (he : starEach (e :: es) X.env = (false, eval e X.env) :: starEach es X.env := by rfl) (hpl : (backTo pos (starEach es X.env)).any (·.1) = false := by rfl) : PE X (.Call (.Name x p) (e :: es) [] pos) (tCallS sp (WE W) t) := by
  obtain ⟨f, fd, ps, F, hm, kp, hb⟩ := c.ex
  exact pe_callS F (hr.mono hk) hg hm kp hb (fun σ => passAt tk σ) ha hdb he hpl
/-- .. where it raises nothing -/
theorem pe_fnN (c : Fn X.prog X.w X.K X.mg X.base (L2.CX X.prog X.w) k x sp) (hr : Room j X.A) (hk : k ≤ j) (hg : Gl X x) (ha : PA X (e :: es) t) (hdb : (x == ("__debug__" : Str)) = false := by decide)
    (he : starEach (e :: es) X.env = (false, eval e X.env) :: starEach es X.env := by rfl) (hpl : (backTo pos (starEach es X.env)).any (·.1) = false := by rfl) : PE X (.Call (.Name x p) (e :: es) [] pos) (tCallS sp (fun _ => E0) t) := by
  obtain ⟨f, fd, ps, F, hm, kp, hb⟩ := c.ex
  exact pe_callS F (hr.mono hk) hg hm kp hb (fun σ pins H s e s' I h => passL pins σ H s e s' I h) ha hdb he hpl
/-- a def without parameters -/
theorem pe_fn00 (c : Fn X.prog X.w X.K X.mg X.base CX0 k x sp) (hr : Room j X.A) (hk : k ≤ j) (hg : Gl X x) (hdb : (x == ("__debug__" : Str)) = false := by decide) : PE X (.Call (.Name x p) [] [] pos) (tCallS sp (fun _ => E0) tNil) := by
  obtain ⟨f, fd, ps, F, hm, kp, hb⟩ := c.ex
  have h := pe_call0 (X := X) (x := x) (p := p) (pos := pos) (dvs := []) (E := E0) F (hr.mono hk) hg hm kp hb .nil pass0 hdb
  refine ⟨fun pins s σ H Q I q => ?_⟩
  exact h.run pins s σ H Q I q
/-- a name of the module that stands for v -/
theorem pe_gl {v : V} (h : ∃ u, X.mg x = some u ∧ RelV v u) (hg : Gl X x) (hd : (x == ("__debug__" : Str)) = false := by decide) : PE X (.Name x pos) (tC v) := by
  obtain ⟨u, hm, r⟩ := h
  exact pe_glob hg hm r hd
end
theorem Fn.of {P : Program} {w : World} {K : PySem.W.Frag} {mg : Str → Option Value} {base : Heap} {CX : CXT} {k : Nat} {x qual : Str} {st : Stmt} {f : Addr} {fd : FuncData} {ps : List Str} {sp : Sp} (F : Fun K x qual st f fd) (hm : mg x = some (.ref f)) (hb : Binds K fd ps [])
    (h : FnOk P w K mg base CX k f fd ps sp) : Fn P w K mg base CX k x sp := ⟨f, fd, ps, h, hm, F.kp, hb⟩

/-! ### text * n, split, join, replace -/
section
variable {X : Cx}
theorem rep_zero (l : List Nat) : repL 0 l = [] := rfl
theorem rep_one (l : List Nat) : repL 1 l = l := by simp [repL]
theorem op_mulS : OpR X (binaryOp .Mult) qMulS := by
  rintro pins s σ H x y v u Q I rx ry ⟨l, n, rfl, rfl, h1, h2, q⟩
  obtain ⟨t, rfl⟩ := rx
  obtain ⟨t', rfl⟩ := ry
  refine PySem.P.mul_str ?_ (fun _ _ => ?_) (fun _ _ => ?_) ?_
  · have e1 : ¬ ((n : Int) < -(2 ^ 63 : Int)) := by omega
    have e2 : ¬ ((n : Int) ≥ 2 ^ 63) := by omega
    rw [decide_eq_false e1, decide_eq_false e2]
    rfl
  · rename_i hn hz
    rw [S_len]
    have hn1 : n ≠ 0 := by omega
    have h3 : ((l.length : Int) * (n : Int)) ≤ 1000000 := by
      rw [← Int.natCast_mul]
      omega
    have hle : (l.length : Int) ≤ (2 ^ 63 - 1) / (n : Int) := Int.le_ediv_of_mul_le (by omega) (by omega)
    omega
  · show Builtin.Str.tooLong ((S l).length * (n : Int).toNat) = false
    rw [S_len, Int.toNat_natCast]
    unfold Builtin.Str.tooLong
    have := line_ge
    simp only [decide_eq_false_iff_not]
    omega
  · have fin : ∀ (k : Nat), Q (vS (repL n l)) H → EP X pins σ Q (.str (S (repL n l)) k) s := fun k q => ⟨vS _, H, I, ⟨k, rfl⟩, q⟩
    have fin2 : ∀ (k : Nat), Q (vS (repL n l)) H → EP X pins σ Q (.str (S (repL n l)) k) { s with toks := s.toks + 1 } := fun k q => ⟨vS _, H, I.tok _, ⟨k, rfl⟩, q⟩
    split
    · rename_i hn
      have e : n = 0 := by omega
      subst e
      exact ⟨by decide, fin2 _ q⟩
    · split
      · rename_i hn hz
        simp only [Bool.or_eq_true, beq_iff_eq] at hz
        have e : repL n l = l := by
          rcases hz with hz | hz
          · have e : n = 1 := by omega
            rw [e, rep_one]
          · rw [S_len] at hz
            have e : l = [] := List.length_eq_zero_iff.mp hz
            subst e
            simp [repL]
        rw [e] at q
        exact ⟨vS _, H, I, ⟨t, rfl⟩, q⟩
      · have e : (⟨(List.replicate (n : Int).toNat (S l).cps).foldl (· ++ ·) #[]⟩ : Str) = S (repL n l) := by
          rw [Int.toNat_natCast]
          refine TL.ext_tl ?_
          show ((List.replicate n l.toArray).foldl (· ++ ·) #[]).toList = repL n l
          rw [foldl_rep]
          rfl
        rw [e]
        refine ⟨?_, fin2 _ q⟩
        rw [S_len]
        have : (repL n l).length = l.length * n := by
          simp [repL, Nat.mul_comm]
        rw [this]
        exact to_line h1
/-- "/".split -/
theorem spl_splitS : ∀ (l acc : List Nat), TL.spl [47] 0 acc l = (match splitS l with | h :: t => (acc ++ h) :: t | [] => [])
  | [], acc => by
    rw [TL.spl_nil]
    simp [splitS]
  | c :: r, acc => by
    rw [splitS]
    by_cases h : c = 47
    · subst h
      rw [TL.spl_hit (by rfl), if_pos rfl]
      show acc :: TL.spl [47] 0 [] r = (acc ++ []) :: splitS r
      rw [spl_splitS r []]
      have hn := splitS_ne r
      cases e : splitS r with
      | nil => exact absurd e hn
      | cons a t => simp
    · rw [TL.spl_miss (TL.pre_of_head [] r h), if_neg h, spl_splitS r (acc ++ [c])]
      have hn := splitS_ne r
      cases e : splitS r with
      | nil => exact absurd e hn
      | cons a t => simp
theorem split_eq (l : List Nat) : Txt.split (S l) (S [47]) = (splitS l).map S := by
  refine TL.map_tl_inj ?_
  rw [TL.split_spl (S l) (S [47]) (by simp [TL.tl]) (TL.kind_ok (by decide +kernel))]
  show TL.spl [47] 0 [] l = ((splitS l).map S).map TL.tl
  rw [spl_splitS, List.map_map]
  have hn := splitS_ne l
  cases e : splitS l with
  | nil => exact absurd e hn
  | cons a t =>
    show ([] ++ a) :: t = (a :: t).map (TL.tl ∘ S)
    have : TL.tl ∘ S = id := rfl
    rw [this, List.map_id]
    rfl
theorem map_vS (ys : List (List Nat)) : (ys.map S).map V.str = ys.map vS := by
  rw [List.map_map]
  rfl
def qSplit : V → List V → Hp → VK → Prop := fun x xs H Q => ∃ l : List Nat, x = vS l ∧ xs = [vS [47]] ∧ l.length ≤ 1000000 ∧ ∀ p, H p = none → Q (.ref p) (upd H p (.lst ((splitS l).map vS)))
theorem i_split {l : List Nat} {H : Hp} {Q : VK} (h : l.length ≤ 1000000) (q : ∀ p, H p = none → Q (.ref p) (upd H p (.lst ((splitS l).map vS)))) : qSplit (vS l) [vS [47]] H Q := ⟨l, rfl, rfl, h, q⟩
theorem mt_splitS : MtR X "str.split" qSplit := mtrI mt_split (by
  rintro x xs H Q ⟨l, rfl, rfl, h, q⟩
  refine ⟨S l, S [47], rfl, rfl, rfl, ?_, fun p hp => ?_⟩
  · rw [S_len]
    have := line_ge
    have : 1000002 ≤ sizeLine := by decide
    omega
  · rw [split_eq, map_vS]
    exact q p hp)
theorem joinL_joinS : ∀ ps : List (List Nat), TL.joinL [47] ps = joinS ps
  | [] => rfl
  | [x] => rfl
  | x :: y :: r => by
    have ih := joinL_joinS (y :: r)
    show x ++ ([47] ++ TL.joinL [47] (y :: r)) = x ++ 47 :: joinS (y :: r)
    rw [ih]
    rfl
theorem joinL_flat : ∀ ps : List (List Nat), TL.joinL [] ps = ps.flatten
  | [] => rfl
  | [x] => by simp [TL.joinL]
  | x :: y :: r => by
    have ih := joinL_flat (y :: r)
    show x ++ ([] ++ TL.joinL [] (y :: r)) = _
    rw [ih]
    simp
theorem join_S (a : List Nat) (ys : List (List Nat)) : Txt.join (S a) (ys.map S) = S (TL.joinL a ys) := by
  have e := TL.tl_join (S a) (ys.map S)
  have e1 : (ys.map S).map TL.tl = ys := by
    rw [List.map_map]
    exact List.map_id ys
  rw [e1] at e
  exact TL.ext_tl ((congrArg TL.tl (TL.join_eq (S a) (ys.map S))).trans e)
def sumL (ys : List (List Nat)) : Nat := (ys.map List.length).sum
theorem sum_S (ys : List (List Nat)) : ((ys.map S).map (·.length)).sum = sumL ys := by
  unfold sumL
  rw [List.map_map]
  congr 1
def qJoin (K : PySem.W.Frag) : V → List V → Hp → VK → Prop := fun x xs H Q => ∃ (p : Addr) (ys : List (List Nat)), x = vS [47] ∧ xs = [.ref p] ∧ SqL K H p (ys.map vS) ∧ sumL ys + ys.length ≤ 16000000 ∧ Q (vS (joinS ys)) H
theorem i_join {K : PySem.W.Frag} {p : Addr} {ys : List (List Nat)} {H : Hp} {Q : VK} (h : SqL K H p (ys.map vS)) (hl : sumL ys + ys.length ≤ 16000000) (q : Q (vS (joinS ys)) H) : qJoin K (vS [47]) [.ref p] H Q := ⟨p, ys, rfl, rfl, h, hl, q⟩
theorem mt_joinS : MtR X "str.join" (qJoin X.K) := mtrI mt_join (by
  rintro x xs H Q ⟨p, ys, rfl, rfl, h, hl, q⟩
  refine ⟨S [47], p, ys.map S, rfl, rfl, .inl ?_, ?_, ?_⟩
  · rw [map_vS]
    exact h
  · rw [sum_S, List.length_map]
    show _ + ys.length * 1 ≤ _
    omega
  · rw [join_S, joinL_joinS]
    exact q)
def qJoin0 (K : PySem.W.Frag) : V → List V → Hp → VK → Prop := fun x xs H Q => ∃ (p : Addr) (ys : List (List Nat)), x = vS [] ∧ xs = [.ref p] ∧ SqL K H p (ys.map vS) ∧ sumL ys ≤ 16000000 ∧ Q (vS ys.flatten) H
theorem i_join0 {K : PySem.W.Frag} {p : Addr} {ys : List (List Nat)} {H : Hp} {Q : VK} (h : SqL K H p (ys.map vS)) (hl : sumL ys ≤ 16000000) (q : Q (vS ys.flatten) H) : qJoin0 K (vS []) [.ref p] H Q := ⟨p, ys, rfl, rfl, h, hl, q⟩
theorem mt_join0 : MtR X "str.join" (qJoin0 X.K) := mtrI mt_join (by
  rintro x xs H Q ⟨p, ys, rfl, rfl, h, hl, q⟩
  refine ⟨S [], p, ys.map S, rfl, rfl, .inl ?_, ?_, ?_⟩
  · rw [map_vS]
    exact h
  · rw [sum_S, List.length_map]
    show _ + ys.length * 0 ≤ _
    omega
  · rw [join_S, joinL_flat]
    exact q)
end
end Pw

/-! More rules: named operators, classes, exceptions, enumerate of a text. -/
namespace Pw
open PySem PySem.Spec PyProof.Rows L2
section
variable {X : Cx}
def qAdd : R2 := rI0 fun i j => .int (i + j)
def qSub : R2 := rI0 fun i j => .int (i - j)
def qLt : R2 := rI0 fun i j => .bl (decide (i < j))
def qLe : R2 := rI0 fun i j => .bl (decide (i ≤ j))
def qGt : R2 := rI0 fun i j => .bl (decide (j < i))
def qGe : R2 := rI0 fun i j => .bl (decide (j ≤ i))
def qNeg : V → Hp → VK → Prop := rU fun i => .int (-i)
theorem op_add1 : OpR X (binaryOp .Add) qAdd := op_add
theorem op_sub1 : OpR X (binaryOp .Sub) qSub := op_sub
theorem op_lt1 : OpR X (compareOp .Lt) qLt := op_lt
theorem op_le1 : OpR X (compareOp .LtE) qLe := op_le
theorem op_gt1 : OpR X (compareOp .Gt) qGt := op_gt
theorem op_ge1 : OpR X (compareOp .GtE) qGe := op_ge
theorem i_add {i j : Int} {H : Hp} {Q : VK} (q : Q (.int (i + j)) H) : qAdd (.int i) (.int j) H Q := ⟨i, j, rfl, rfl, q⟩
theorem i_sub {i j : Int} {H : Hp} {Q : VK} (q : Q (.int (i - j)) H) : qSub (.int i) (.int j) H Q := ⟨i, j, rfl, rfl, q⟩
theorem i_lt {i j : Int} {H : Hp} {Q : VK} (q : Q (.bl (decide (i < j))) H) : qLt (.int i) (.int j) H Q := ⟨i, j, rfl, rfl, q⟩
theorem i_le {i j : Int} {H : Hp} {Q : VK} (q : Q (.bl (decide (i ≤ j))) H) : qLe (.int i) (.int j) H Q := ⟨i, j, rfl, rfl, q⟩
theorem i_gt {i j : Int} {H : Hp} {Q : VK} (q : Q (.bl (decide (j < i))) H) : qGt (.int i) (.int j) H Q := ⟨i, j, rfl, rfl, q⟩
theorem i_ge {i j : Int} {H : Hp} {Q : VK} (q : Q (.bl (decide (j ≤ i))) H) : qGe (.int i) (.int j) H Q := ⟨i, j, rfl, rfl, q⟩
theorem i_neg {i : Int} {H : Hp} {Q : VK} (q : Q (.int (-i)) H) : qNeg (.int i) H Q := ⟨i, rfl, q⟩
/-- slices of lists, list(..), insert -/
def qSlL (K : PySem.W.Frag) : V → Option Int → Option Int → Hp → VK → Prop := fun x lo hi H Q => ∃ (a : Addr) (xs : List V), x = .ref a ∧ SqL K H a xs ∧ ∀ p, H p = none → Q (.ref p) (upd H p (.lst (cutN xs lo hi)))
theorem i_slL {K : PySem.W.Frag} {a : Addr} {xs : List V} {lo hi : Option Int} {H : Hp} {Q : VK} (h : SqL K H a xs) (q : ∀ p, H p = none → Q (.ref p) (upd H p (.lst (cutN xs lo hi)))) : qSlL K (.ref a) lo hi H Q := ⟨a, xs, rfl, h, q⟩
theorem sl_L : SlR X (qSlL X.K) := sl_list
def qListL (K : PySem.W.Frag) : List V → Hp → VK → Prop := fun vs H Q => ∃ (p : Addr) (ys : List V), vs = [.ref p] ∧ SqL K H p ys ∧ ∀ l, H l = none → Q (.ref l) (upd H l (.lst ys))
theorem i_listL {K : PySem.W.Frag} {p : Addr} {ys : List V} {H : Hp} {Q : VK} (h : SqL K H p ys) (q : ∀ l, H l = none → Q (.ref l) (upd H l (.lst ys))) : qListL K [.ref p] H Q := ⟨p, ys, rfl, h, q⟩
theorem call_listL : CallR X (.type "list") (qListL X.K) := callI call_list_of (by
  rintro vs H Q ⟨p, ys, rfl, h, q⟩
  exact ⟨p, ys, rfl, .inl h, q⟩)
def qInsert : V → List V → Hp → VK → Prop := fun x vs H Q => ∃ (l : Addr) (xs : List V) (i : Nat) (y : V), x = .ref l ∧ vs = [.int (i : Int), y] ∧ H l = some (.lst xs) ∧ xs.length < 1000000 ∧ i ≤ 1000000 ∧ Q .non (upd H l (.lst (xs.take i ++ [y] ++ xs.drop i)))
theorem i_insert {l : Addr} {xs : List V} {z : Int} {i : Nat} {y : V} {H : Hp} {Q : VK} (e : z = (i : Int)) (h : H l = some (.lst xs)) (hl : xs.length < 1000000) (hi : i ≤ 1000000) (q : Q .non (upd H l (.lst (xs.take i ++ [y] ++ xs.drop i)))) : qInsert (.ref l) [.int z, y] H Q := ⟨l, xs, i, y, rfl, by rw [e], h, hl, hi, q⟩
theorem mt_insert1 : MtR X "list.insert" qInsert := mtrI mt_insert (by
  rintro x vs H Q ⟨l, xs, i, y, rfl, rfl, h, hl, hi, q⟩
  exact ⟨l, xs, (i : Int), y, rfl, rfl, h, to_lineL hl, by omega, by omega, by rw [Int.toNat_natCast]; exact q⟩)
def qMax : List V → Hp → VK → Prop := fun xs H Q => ∃ i j : Int, xs = [.int i, .int j] ∧ Q (.int (if j > i then j else i)) H
def qMin : List V → Hp → VK → Prop := fun xs H Q => ∃ i j : Int, xs = [.int i, .int j] ∧ Q (.int (if j < i then j else i)) H
/-- is not None -/
def qNotN : R2 := fun x y H Q => y = .non ∧ Q (.bl (!decide (x = .non))) H
theorem i_notN {x : V} {H : Hp} {Q : VK} (q : Q (.bl (!decide (x = .non))) H) : qNotN x .non H Q := ⟨rfl, q⟩
theorem op_notN' : OpR X (compareOp .IsNot) qNotN := op_notN
/-- == of truth values -/
def qEqB : R2 := fun x y H Q => ∃ a b : Bool, x = .bl a ∧ y = .bl b ∧ Q (.bl (decide (a = b))) H
def qNeB : R2 := fun x y H Q => ∃ a b : Bool, x = .bl a ∧ y = .bl b ∧ Q (.bl (!decide (a = b))) H
theorem dec_B (a b : Bool) : decide (V.bl a = V.bl b) = decide (a = b) := by
  cases a <;> cases b <;> rfl
theorem i_eqB {a b : Bool} {H : Hp} {Q : VK} (q : Q (.bl (decide (a = b))) H) : qEqB (.bl a) (.bl b) H Q := ⟨a, b, rfl, rfl, q⟩
theorem i_neB {a b : Bool} {H : Hp} {Q : VK} (q : Q (.bl (!decide (a = b))) H) : qNeB (.bl a) (.bl b) H Q := ⟨a, b, rfl, rfl, q⟩
theorem op_eqB : OpR X (compareOp .Eq) qEqB := oprI op_eq (by
  rintro x y H Q ⟨a, b, rfl, rfl, q⟩
  exact ⟨rfl, by rw [dec_B]; exact q⟩)
theorem op_neB : OpR X (compareOp .NotEq) qNeB := oprI op_ne (by
  rintro x y H Q ⟨a, b, rfl, rfl, q⟩
  exact ⟨rfl, by rw [dec_B]; exact q⟩)
end

/-! ### classes of exceptions; raise, try -/
structure XC (K : PySem.W.Frag) (mg : Str → Option Value) (x : Str) (C : Addr) : Prop where
  xi : PySem.W.excIn K C [.type "ValueError", .type "Exception", .type "BaseException", .type "object"] "ValueError.__new__" = true
  g : mg x = some (.ref C)
  k : PySem.W.keepIn K (.ref C) = true
  b : PySem.W.subIn K (.ref C) (.type "BaseException") = some true
  t : PySem.W.typeIn K (.ref C) = some (.type "type")
def tRaise (W : WX) (cls : Value) : TS := fun _ σ H => W cls none σ H
def tTry (tb : WX → TS) (wf : Ends → WX) : TS := fun D σ H => tb (wf D) D σ H
theorem names_of {X : Cx} {x : Str} {c : Value} (hg : Gl X x) (hm : X.mg x = some c) (hd : (x == ("__debug__" : Str)) = false := by decide) : Names X x c := ⟨hg, hd, .inl hm⟩
section
variable {X : Cx} {x n : Str} {c : Value} {i : Nat} {body suite : List Stmt} {b₀ : Stmt} {np pos pos' : Pos} {tb : WX → TS} {ts : Addr → Value → Option Addr → TS} {Wout : WX}
theorem ps_tryO (hs : X.stack = X.env :: X.outer) (hf : X.env.frame = some X.env.locals) (hc : Names X x c) (tk : Takes X Wout)
    (hb : ∀ (W : WX) (pn : List (Addr × Obj)) (xe : Value → Shared → Prop), Takes (X.tr pn xe) W → PassesOwn (model X.prog X.w) X.A X.env xe → PSs (X.tr pn xe) body (tb W))
    (hsu : ∀ (a : Addr) (oe : Obj) (cls : Value) (d : Option Addr) (pn : List (Addr × Obj)), Zc cls d oe → (∃ vs, oe.data = .fields vs) → PSs (X.suite a ((a, oe) :: pn)) (b₀ :: suite) (ts a cls d)) :
    PS X (.Try body [.ExceptHandler (some (.Name x np)) none (b₀ :: suite) pos'] [] [] pos) (tTry tb fun D => wOnly X.K c ts Wout D) := ps_try_only hs hf hc tk hb hsu
theorem ps_tryA (hs : X.stack = X.env :: X.outer) (hf : X.env.frame = some X.env.locals) (hN : X.N.Nodup) (hi : X.N[i]? = some n) (hln : X.env.kindOf n = some .local) (hc : Names X x c) (tk : Takes X Wout)
    (hb : ∀ (W : WX) (pn : List (Addr × Obj)) (xe : Value → Shared → Prop), Takes (X.tr pn xe) W → PassesOwn (model X.prog X.w) X.A X.env xe → PSs (X.tr pn xe) body (tb W))
    (hsu : ∀ (a : Addr) (oe : Obj) (cls : Value) (d : Option Addr) (pn : List (Addr × Obj)), Zc cls d oe → (∃ vs, oe.data = .fields vs) → PSs (X.suite a ((a, oe) :: pn)) (b₀ :: suite) (ts a cls d)) :
    PS X (.Try body [.ExceptHandler (some (.Name x np)) (some n) (b₀ :: suite) pos'] [] [] pos) (tTry tb fun D => wAs X.K c i ts Wout D) := ps_try_as hs hf hN hi hln hc tk hb hsu
end
/-- isinstance(e, c) in an except suite, e the caught error -/
def qIsE (K : PySem.W.Frag) (a : Addr) (cls : Value) (d : Option Addr) : List V → Hp → VK → Prop := fun xs H Q => ∃ (D : Addr) (c : V) (cv : Value) (b : Bool), cls = .ref D ∧ d = none ∧ ExcC K D ∧ xs = [.ref a, c] ∧ (∀ u, RelV c u → u = cv) ∧ PySem.W.kitOne K (.ref D) cv = some b ∧ Q (.bl b) H
theorem call_isE1 {X : Cx} {a : Addr} {cls : Value} {d : Option Addr} {oe : Obj} {pn : List (Addr × Obj)} (hz : Zc cls d oe) (hf : ∃ vs, oe.data = .fields vs) : CallR (X.suite a ((a, oe) :: pn)) (.builtin "isinstance") (qIsE X.K a cls d) := by
  rintro pins s σ H xs us Q I r ⟨D, c, cv, b, rfl, rfl, hC, rfl, hcv, e, q⟩
  exact call_isE hC hz hf pins s σ H _ us Q I r ⟨c, cv, b, rfl, hcv, e, q⟩

/-! ### own classes: made, methods called -/
structure MkOk (P : Program) (w : World) (K : PySem.W.Frag) (mg : Str → Option Value) (base : Heap) (CX : CXT) (k : Nat) (C : Addr) (sp : Sp) : Prop where
  ex : ∃ f fd ps, FnOk P w K mg base CX k f fd ps sp ∧ PySem.W.findIn K (.ref C) "__init__" = some (some (.ref f)) ∧ PySem.W.isFn K (.ref f) = true ∧ Binds K fd ps []
structure MtOk (P : Program) (w : World) (K : PySem.W.Frag) (mg : Str → Option Value) (base : Heap) (CX : CXT) (k : Nat) (C : Addr) (m : Str) (sp : Sp) : Prop where
  ex : ∃ f fd ps, FnOk P w K mg base CX k f fd ps sp ∧ Meth K C m f ∧ Binds K fd ps []
def tMkS (C : Addr) (sp : Sp) (E : L2.St → XK) (t : TA) : TE := fun σ H Q => t σ H fun vs H1 => ∀ x dx, H1 x = none → H1 dx = none → dx ≠ x → sp (.ref x :: vs) (upd (upd H1 dx (.own x)) x (.ins C dx [])) (fun v H2 => v = .non ∧ Q (.ref x) H2) (E σ)
def tMetS (C : Addr) (m : Str) (sp : Sp) (E : L2.St → XK) (ta : TE) (t : TA) : TE := fun σ H Q => ta σ H fun x H1 => ∃ a dx fs, x = .ref a ∧ H1 a = some (.ins C dx fs) ∧ fs.lookup m = none ∧ t σ H1 fun vs H2 => sp (x :: vs) H2 Q (E σ)
section
variable {X : Cx} {CX : CXT} {k j : Nat} {C : Addr} {x m : Str} {sp : Sp} {E : L2.St → XK} {W : WX} {p pos apos : Pos} {e o : Expr} {es : List Expr} {ta : TE} {t : TA}
theorem run_mkS {f : Addr} {fd : FuncData} {ps : List Str} {pins : List (Addr × Obj)} {σ : L2.St} {H : Hp} {s : Shared} {Q : VK} {us : List Value} {vs : List V} (M : Mk X.K C f) (F : FnOk X.prog X.w X.K X.mg X.base CX k f fd ps sp) (hr : Room (k + 1) X.A) (hb : Binds X.K fd ps [])
    (hx : PassesAt CX X σ (E σ)) (I : Inv X pins σ H s) (r : Vals vs us)
    (h : ∀ x dx, H x = none → H dx = none → dx ≠ x → sp (.ref x :: vs) (upd (upd H dx (.own x)) x (.ins C dx [])) (fun v H2 => v = .non ∧ Q (.ref x) H2) (E σ)) :
    wpAny (model X.prog X.w) X.A (call (.ref C) us) (EP X pins σ Q) X.xe s := by
  have hq := h (s.heap.objs.size + 1) s.heap.objs.size (I.hok.fresh (Nat.le_succ _)) (I.hok.fresh (Nat.le_refl _)) (Nat.ne_of_lt (Nat.lt_succ_self _))
  have I2 := Inv.made (C := C) I
  have r2 : Vals (V.ref (s.heap.objs.size + 1) :: vs) (Value.ref (s.heap.objs.size + 1) :: us) := .cons rfl r
  have hl : (Value.ref (s.heap.objs.size + 1) :: us ++ []).length = ps.length := by
    have e := r2.length
    rw [F.len _ _ _ _ hq] at e
    rw [List.append_nil]
    exact e.symm
  have hbb := hb _ (Value.ref (s.heap.objs.size + 1) :: us) I2.kIn hl
  rw [List.append_nil] at hbb
  refine wpAny_call (make_map (f := f) I.kIn M.makes M.init (beq_iff_eq.mp M.fn) (codeAny_mono (F.run _ X.stack _ _ ⟨Value.ref (s.heap.objs.size + 1) :: us, []⟩ (Value.ref (s.heap.objs.size + 1) :: us) _ _ (E σ) (hr.make C us [])
    (I2.env0.make C us []) hbb r2 hq) fun r s' hq' => ?_))
  cases r with
  | error e => exact hx pins _ _ e s' I2 hq'
  | ok fl =>
    cases fl with
    | ret u =>
      obtain ⟨v, H', I3, rv, ev, q3⟩ := I2.after hq'
      subst ev
      exact ⟨rv, ⟨V.ref (s.heap.objs.size + 1), H', I3, rfl, q3⟩⟩
    | next => exact False.elim hq'
    | brk => exact False.elim hq'
    | cont => exact False.elim hq'
theorem pe_mkS (c : MkOk X.prog X.w X.K X.mg X.base CX k C sp) (hM : PySem.W.makesIn X.K C = true ∧ PySem.W.keepIn X.K (.ref C) = true) (hr : Room j X.A) (hk : k + 1 ≤ j) (hx : ∀ σ, PassesAt CX X σ (E σ)) (hg : Gl X x) (hm : X.mg x = some (.ref C))
    (ha : PA X (e :: es) t) (hdb : (x == ("__debug__" : Str)) = false := by decide) (he : starEach (e :: es) X.env = (false, eval e X.env) :: starEach es X.env := by rfl) (hpl : (backTo pos (starEach es X.env)).any (·.1) = false := by rfl) :
    PE X (.Call (.Name x p) (e :: es) [] pos) (tMkS C sp E t) := by
  obtain ⟨f, fd, ps, F, hi, hfn, hb⟩ := c.ex
  have M : Mk X.K C f := ⟨hM.1, hi, hfn, hM.2⟩
  refine ⟨fun pins s σ H Q I h => ?_⟩
  refine wpAny_Call_Name_kw (ld_glob I hg hm ?_ hdb)
  refine PySem.W.callWith_K (h₀ := X.base) I.ok.mod.kin M.kp (thn (ha.run pos pins s σ H _ I h) fun us s1 ⟨vs, H1, I1, r, q⟩ => ⟨I1.kIn, ?_⟩) he hpl
  exact run_mkS M F (hr.mono hk) hb (hx σ) I1 r q
theorem pe_mkX (c : MkOk X.prog X.w X.K X.mg X.base (L2.CX X.prog X.w) k C sp) (hM : PySem.W.makesIn X.K C = true ∧ PySem.W.keepIn X.K (.ref C) = true) (hr : Room j X.A) (hk : k + 1 ≤ j) (tk : Takes X W) (hg : Gl X x) (hm : X.mg x = some (.ref C))
    (ha : PA X (e :: es) t) (hdb : (x == ("__debug__" : Str)) = false := by decide) (he : starEach (e :: es) X.env = (false, eval e X.env) :: starEach es X.env := by rfl) (hpl : (backTo pos (starEach es X.env)).any (·.1) = false := by rfl) :
    PE X (.Call (.Name x p) (e :: es) [] pos) (tMkS C sp (WE W) t) := pe_mkS c hM hr hk (fun σ => passAt tk σ) hg hm ha hdb he hpl
theorem pe_mkN (c : MkOk X.prog X.w X.K X.mg X.base (L2.CX X.prog X.w) k C sp) (hM : PySem.W.makesIn X.K C = true ∧ PySem.W.keepIn X.K (.ref C) = true) (hr : Room j X.A) (hk : k + 1 ≤ j) (hg : Gl X x) (hm : X.mg x = some (.ref C))
    (ha : PA X (e :: es) t) (hdb : (x == ("__debug__" : Str)) = false := by decide) (he : starEach (e :: es) X.env = (false, eval e X.env) :: starEach es X.env := by rfl) (hpl : (backTo pos (starEach es X.env)).any (·.1) = false := by rfl) :
    PE X (.Call (.Name x p) (e :: es) [] pos) (tMkS C sp (fun _ => E0) t) := pe_mkS c hM hr hk (fun σ pins H s e s' I h => passL pins σ H s e s' I h) hg hm ha hdb he hpl
theorem pe_mtS {pl : Sem Bool} (c : MtOk X.prog X.w X.K X.mg X.base CX k C m sp) (cl : Cls X.K C) (hr : Room j X.A) (hk : k ≤ j) (hx : ∀ σ, PassesAt CX X σ (E σ)) (ho : PE X o ta) (ha : PA X (e :: es) t)
    (hst : starEach (e :: es) X.env = (false, eval e X.env) :: starEach es X.env := by rfl) (hpl : (backTo pos (starEach es X.env)).any (·.1) = false := by rfl)
    (ht : eval (.Call (.Attribute o m apos) (e :: es) [] pos) X.env = (do
      let ov ← eval o X.env
      standAt apos.atName
      let (f, first) ← holding [ov] (getMethod ov m pl)
      callWith pos f first (backTo pos (starEach (e :: es) X.env)) (backToKw pos (keywordEach [] X.env))) := by rfl) :
    PE X (.Call (.Attribute o m apos) (e :: es) [] pos) (tMetS C m sp E ta t) := by
  obtain ⟨f, fd, ps, F, hm, hb⟩ := c.ex
  refine ⟨fun pins s σ H Q I h => ?_⟩
  refine PySem.W.methodCall_KW (pl := pl) (thn (ho.run pins s σ H _ I h) fun u s1 ⟨x, H1, I1, rx, a, dx, fs, ex, ea, l, q⟩ => ?_) ht
  subst ex
  obtain rfl : u = Value.ref a := rx
  refine getmeth_ok I1 ea cl hm l ?_
  refine PySem.W.callWith_K (first := [.ref a]) (h₀ := X.base) I.ok.mod.kin hm.kp (thn (ha.run pos pins s1 σ H1 _ I1 q) fun us s2 ⟨vs, H2, I2, r, q2⟩ => ⟨I2.kIn, ?_⟩) hst hpl
  exact run_fnS (us := .ref a :: us) (vs := .ref a :: vs) F (hr.mono hk) hb (hx σ) I2 (.cons rfl r) q2
theorem pe_mtX {pl : Sem Bool} (c : MtOk X.prog X.w X.K X.mg X.base (L2.CX X.prog X.w) k C m sp) (cl : Cls X.K C) (hr : Room j X.A) (hk : k ≤ j) (tk : Takes X W) (ho : PE X o ta) (ha : PA X (e :: es) t)
    (hst : starEach (e :: es) X.env = (false, eval e X.env) :: starEach es X.env := by rfl) (hpl : (backTo pos (starEach es X.env)).any (·.1) = false := by rfl)
    (ht : eval (.Call (.Attribute o m apos) (e :: es) [] pos) X.env = (do
      let ov ← eval o X.env
      standAt apos.atName
      let (f, first) ← holding [ov] (getMethod ov m pl)
      callWith pos f first (backTo pos (starEach (e :: es) X.env)) (backToKw pos (keywordEach [] X.env))) := by rfl) :
    PE X (.Call (.Attribute o m apos) (e :: es) [] pos) (tMetS C m sp (WE W) ta t) := pe_mtS (pl := pl) c cl hr hk (fun σ => passAt tk σ) ho ha hst hpl ht
theorem pe_mtN {pl : Sem Bool} (c : MtOk X.prog X.w X.K X.mg X.base (L2.CX X.prog X.w) k C m sp) (cl : Cls X.K C) (hr : Room j X.A) (hk : k ≤ j) (ho : PE X o ta) (ha : PA X (e :: es) t)
    (hst : starEach (e :: es) X.env = (false, eval e X.env) :: starEach es X.env := by rfl) (hpl : (backTo pos (starEach es X.env)).any (·.1) = false := by rfl)
    (ht : eval (.Call (.Attribute o m apos) (e :: es) [] pos) X.env = (do
      let ov ← eval o X.env
      standAt apos.atName
      let (f, first) ← holding [ov] (getMethod ov m pl)
      callWith pos f first (backTo pos (starEach (e :: es) X.env)) (backToKw pos (keywordEach [] X.env))) := by rfl) :
    PE X (.Call (.Attribute o m apos) (e :: es) [] pos) (tMetS C m sp (fun _ => E0) ta t) := pe_mtS (pl := pl) c cl hr hk (fun σ pins H s e s' I h => passL pins σ H s e s' I h) ho ha hst hpl ht
theorem pe_mt00 {pl : Sem Bool} (c : MtOk X.prog X.w X.K X.mg X.base CX0 k C m sp) (cl : Cls X.K C) (hr : Room j X.A) (hk : k ≤ j) (ho : PE X o ta)
    (ht : eval (.Call (.Attribute o m apos) [] [] pos) X.env = (do
      let ov ← eval o X.env
      standAt apos.atName
      let (f, first) ← holding [ov] (getMethod ov m pl)
      callWith pos f first (backTo pos (starEach [] X.env)) (backToKw pos (keywordEach [] X.env))) := by rfl) :
    PE X (.Call (.Attribute o m apos) [] [] pos) (tMetS C m sp (fun _ => E0) ta tNil) := by
  obtain ⟨f, fd, ps, F, hm, hb⟩ := c.ex
  have h := pe_meth0 (X := X) (dvs := []) (E := E0) (pl := pl) ho cl hm F (hr.mono hk) hb .nil pass0 ht
  refine ⟨fun pins s σ H Q I q => ?_⟩
  exact h.run pins s σ H Q I q
end

/-! ### for i, c in enumerate(text) -/
def IteS (l : List Nat) : It :=
  ⟨fun i H => i < l.length, fun i H v H' => ∃ T c, v = .ref T ∧ H T = none ∧ H' = upd H T (.tup [.int (i : Nat), vS [c]]) ∧ l[i]? = some c, fun i H => l.length ≤ i⟩
theorem strIter_it {x : Str} : strIterType x = "str_ascii_iterator" ∨ strIterType x = "str_iterator" := by
  unfold strIterType
  split
  · exact .inl rfl
  · exact .inr rfl
theorem turn_enumS {P : Program} {w : World} {K : PySem.W.Frag} {elts : List Expr} {kk : Nat} {tpos : Pos} (l : List Nat) (t : Tok) (e it : Addr) :
    Turn P w K (.Tuple elts kk tpos) (IteS l) [e, it] e (fun i h => (∃ old, IsEnum h e it ((i : Nat) : Int) old) ∧ h.IsStrIter it (strIterType (S l)) (S l) t i ∧ e ≠ it ∧ i ≤ l.length) where
  mem := by simp
  obj := fun i h st b hb => by
    obtain ⟨⟨old, he⟩, ⟨o, ho, hc, hd⟩, _⟩ := st
    have e' : b = e ∨ b = it := by simpa using hb
    rcases e' with z | z
    · rw [z]; exact ⟨_, he, fun v q => nomatch q⟩
    · rw [z]; exact ⟨o, ho, fun v q => by rw [hd] at q; cases q⟩
  keep := fun i h h' st k => let ⟨⟨old, he⟩, ⟨o, ho, hc, hd⟩, hne⟩ := st; ⟨⟨old, k e (by simp) _ he⟩, ⟨o, k it (by simp) _ ho, hc, hd⟩, hne⟩
  item := by
    intro X hP hw hK hc i pins s σ H E I hf st hg
    subst hP hw hK
    obtain ⟨⟨old, he⟩, hit, hne, _⟩ := st
    have hlt : i < (S l).cps.size := by
      show i < l.toArray.size
      rw [List.size_toArray]
      exact hg
    have hel : e < s.heap.objs.size := Heap.lt_size he
    have hil : it < s.heap.objs.size := by obtain ⟨_, q, _⟩ := hit; exact Heap.lt_size q
    have D := Draws.text (prog := X.prog) (w := X.w) (A := X.A.in1) (show X.A.in1.handled = none from I.ok.hd hc) it (S l) t
    refine wpAny_pyNext_enum_itemC D he hit hlt hne (by simpa using hne) fun u h' tk hP ho hit' hT hsz hk => ?_
    obtain ⟨c, tc, hx, hu⟩ := hP
    subst hu
    have hx' : l[i]? = some c := by
      have : (S l).cps[i]? = l[i]? := by simp
      rw [← this]
      exact hx
    refine ⟨_, rfl, wpAny_letOwnedTupleGo_enum (s := { s with heap := h', toks := tk + 1 }) ho fun h'' he' sb => ?_⟩
    have hT2 : h''.get? s.heap.objs.size = some { cls := .type "tuple", data := .seq #[.int i tk, .str ⟨#[c]⟩ tc] } := (sb.2 _ (Nat.ne_of_gt hel)).trans hT
    have new : ObjOk X.prog X.w (upd H s.heap.objs.size (.tup [.int (i : Nat), vS [c]])) h'' s.heap.objs.size (.tup [.int (i : Nat), vS [c]]) :=
      ⟨by show 2 ≤ sizeLine; decide, [.int i tk, .str ⟨#[c]⟩ tc], .cons ⟨_, rfl⟩ (.cons ⟨_, rfl⟩ .nil), ⟨_, hT2, rfl, _, rfl⟩⟩
    have I1 : Inv X pins σ (upd H s.heap.objs.size (.tup [.int (i : Nat), vS [c]])) { s with heap := h'', toks := tk + 1 } :=
      I.turnedNew (ch := [e, it]) (fun b ob hb q => (sb.2 b (fun z => hb (by simp [z]))).trans (hk b ob (fun z => hb (by simp [z])) (fun z => hb (by simp [z])) q)) hf (Nat.le_refl _) new
    obtain ⟨o3, ho3, hc3, hd3⟩ := hit'
    refine ⟨.ref s.heap.objs.size, _, I1, rfl, ⟨_, c, rfl, I.hok.fresh (Nat.le_refl _), rfl, hx'⟩, ⟨⟨.str ⟨#[c]⟩ tc, ?_⟩, ⟨o3, (sb.2 it (Ne.symm hne)).trans ho3, hc3, hd3⟩, hne, hg⟩, fun b hb => ?_⟩
    · have e1 : ((i + 1 : Nat) : Int) = (i : Int) + 1 := by omega
      rw [e1]; exact he'
    · have hb' : b < s.heap.objs.size := by
        have e' : b = e ∨ b = it := by simpa using hb
        rcases e' with z | z
        · rw [z]; exact hel
        · rw [z]; exact hil
      rw [upd_ne (Nat.ne_of_lt hb')]
      exact (hf b hb).1
  done := by
    intro X hP hw hK hc i pins s σ H E I hf st hg
    subst hP hw hK
    obtain ⟨⟨old, he⟩, hit, hne, hle⟩ := st
    obtain ⟨f0, f1, f2, f3, f4, f5⟩ := hf it (by simp)
    have D := Draws.text (prog := X.prog) (w := X.w) (A := X.A.in1) (show X.A.in1.handled = none from I.ok.hd hc) it (S l) t
    have ei : i = l.length := Nat.le_antisymm hle hg
    subst ei
    have hit2 : s.heap.IsStrIter it (strIterType (S l)) (S l) t (S l).cps.size := by
      have : (S l).cps.size = l.length := by simp
      rw [this]
      exact hit
    exact wpAny_pyNext_enum_endD D he hit2 fun h' eb => ⟨rfl, I.turned (t' := s.toks) (fun b o hb q => eb b o hb q) f0 f1 f3 f4 f5⟩
  self := fun A i s Q E st h => let ⟨⟨_, he⟩, _⟩ := st; wpAny_pyIter_enum he h
def iEnumS (ta : TA) : TI := fun σ H R => ta σ H fun vs H1 => ∃ l : List Nat, vs = [vS l] ∧ R (IteS l) H1
theorem i_enumS {ta : TA} {σ : L2.St} {H : Hp} {R : It → Hp → Prop} (h : ta σ H fun vs H1 => ∃ l : List Nat, vs = [vS l] ∧ R (IteS l) H1) : iEnumS ta σ H R := h
theorem pi_enumS {X : Cx} {e : Expr} {ta : TA} {p pos tpos : Pos} {elts : List Expr} {kk : Nat} (hg : Gl X "enumerate") (hm : X.mg "enumerate" = none) (ha : PA X [e] ta) (hs : starEach [e] X.env = [(false, eval e X.env)] := by rfl) :
    PI X (.Tuple elts kk tpos) (.Call (.Name "enumerate" p) [e] [] pos) (iEnumS ta) := by
  refine ⟨fun pins s σ H R I h => ?_⟩
  refine Call_ (ld_blt I hg hm boot_enumerate (PyProof.Rows.callWith_type1 (thn (ha.run pos pins s σ H _ I h) fun us s1 ⟨vs, H1, I1, r1, q1⟩ => ?_) hs rfl))
  obtain ⟨l, ex, q⟩ := q1
  subst ex
  cases r1 with
  | cons r rr =>
    cases rr
    obtain ⟨t, e⟩ := r
    subst e
    refine call_enumerate_str fun h' he hit hsz hk => wpAny_pyIter_enum he ?_
    have I2 : Inv X pins σ H1 { s1 with heap := h' } := I1.kept (t' := s1.toks) hk
    refine ⟨s1.heap.objs.size + 1, [s1.heap.objs.size + 1, s1.heap.objs.size], _, _, H1, rfl, I2, turn_enumS l t (s1.heap.objs.size + 1) s1.heap.objs.size, ⟨⟨.none, he⟩, hit, Nat.succ_ne_self _, Nat.zero_le _⟩, fun b hb => ?_, q⟩
    have e' : b = s1.heap.objs.size + 1 ∨ b = s1.heap.objs.size := by simpa using hb
    have hle : s1.heap.objs.size ≤ b := by
      rcases e' with z | z
      · rw [z]; exact Nat.le_add_right _ _
      · rw [z]; exact Nat.le_refl _
    exact I1.fpOk hle (I1.hok.fresh hle)
/-- a loop over it -/
theorem for_enumS {l : List Nat} {g : TG} {tb : TS} {D : Ends} {σ : L2.St} {H : Hp} (Pv : Nat → L2.St → Hp → Prop) (h0 : Pv 0 σ H)
    (hs : ∀ i c σ H T, l[i]? = some c → Pv i σ H → H T = none → g (.ref T) σ (upd H T (.tup [.int (i : Nat), vS [c]])) fun σ2 H2 => tb { D with nx := Pv (i + 1), ct := Pv (i + 1), bk := D.nx } σ2 H2) (hd : ∀ σ H, Pv l.length σ H → D.nx σ H) :
    ∃ W : Nat → Nat → L2.St → Hp → Prop, (∃ m, W 0 m σ H) ∧ ∀ i m σ H, W i m σ H →
      ((IteS l).stop i H ∧ D.nx σ H) ∨ ((IteS l).go i H ∧ ∃ N : L2.St → Hp → Prop, (∀ σ' H', N σ' H' → ∃ m', m' < m ∧ W (i + 1) m' σ' H') ∧ ∀ x H', (IteS l).yld i H x H' → g x σ H' fun σ2 H2 => tb { D with nx := N, ct := N, bk := D.nx } σ2 H2) := by
  refine ⟨fun i m σ H => m = l.length - i ∧ i ≤ l.length ∧ Pv i σ H, ⟨l.length, by simp, Nat.zero_le _, h0⟩, ?_⟩
  rintro i m σ H ⟨rfl, hi, p⟩
  by_cases hlt : i < l.length
  · refine .inr ⟨hlt, Pv (i + 1), fun σ' H' p' => ⟨l.length - (i + 1), by omega, rfl, hlt, p'⟩, fun x H' y => ?_⟩
    obtain ⟨T, c, rfl, hT, rfl, hc⟩ := y
    exact hs i c σ H T hc p hT
  · have e : i = l.length := by omega
    subst e
    exact .inl ⟨Nat.le_refl _, hd σ H p⟩
end Pw

/-! What a call has made on its way is forgotten. -/
namespace Pw
open PySem PySem.Spec PyProof.Rows L2
def simpleO : HO → Bool
  | .lst _ => true
  | .tup _ => true
  | .dK _ => true
  | _ => false
/-- a dict with tuple keys, locked or not -/
def dtree : HO → Bool
  | .dT _ => true
  | .frz _ u => dtree u
  | _ => false
def noDT (H : Hp) : Hp := fun a => match H a with
  | some o => if dtree o = true then none else some o
  | none => none
theorem noDT_some {H : Hp} {a : Addr} {o : HO} (h : noDT H a = some o) : H a = some o ∧ dtree o = false := by
  unfold noDT at h
  cases e : H a with
  | none =>
    rw [e] at h
    cases h
  | some u =>
    rw [e] at h
    dsimp only at h
    split at h
    · cases h
    · rename_i hd
      cases h
      exact ⟨rfl, by simpa using hd⟩
theorem noDT_of {H : Hp} {a : Addr} {o : HO} (h : H a = some o) (hd : dtree o = false) : noDT H a = some o := by
  unfold noDT
  rw [h]
  dsimp only
  rw [if_neg (by rw [hd]; exact Bool.false_ne_true)]
theorem noDT_none {H : Hp} {a : Addr} (h : noDT H a = none) : H a = none ∨ ∃ o, H a = some o ∧ dtree o = true := by
  unfold noDT at h
  cases e : H a with
  | none => exact .inl rfl
  | some u =>
    rw [e] at h
    dsimp only at h
    split at h
    · rename_i hd
      exact .inr ⟨u, rfl, hd⟩
    · cases h
theorem noDT_n {H : Hp} {a : Addr} (h : H a = none) : noDT H a = none := by
  unfold noDT
  rw [h]
theorem rd_noDT {H : Hp} {a : Addr} {u : HO} (h : Rd H a u) (hd : dtree u = false) : Rd (noDT H) a u := by
  rcases h with h | ⟨o, h⟩
  · exact .inl (noDT_of h hd)
  · exact .inr ⟨o, noDT_of h hd⟩
theorem sql_noDT {K : PySem.W.Frag} {H : Hp} {a : Addr} {xs : List V} (h : SqL K H a xs) : SqL K (noDT H) a xs := by
  rcases h with h | h
  · exact .inl (rd_noDT h rfl)
  · exact .inr h
theorem sqt_noDT {K : PySem.W.Frag} {H : Hp} {a : Addr} {xs : List V} (h : SqT K H a xs) : SqT K (noDT H) a xs := by
  rcases h with h | h
  · exact .inl (rd_noDT h rfl)
  · exact .inr h
section
variable {P : Program} {w : World}
theorem objOk_less {H H' : Hp} {h h' : Heap} {a : Addr} : ∀ (o : HO), ObjOk P w H' h' a o → ObjOk P w H h a o → dtree o = false → ObjOk P w H h' a o
  | .lst xs, x, _, _ => x
  | .tup xs, x, _, _ => x
  | .dK kvs, x, _, _ => x
  | .dT kvs, x, _, d => by cases d
  | .set S n, x, _, _ => x
  | .ins C dx fs, x, y, _ => by
    obtain ⟨_, z, ne, e, r⟩ := x
    obtain ⟨d, _⟩ := y
    exact ⟨d, z, ne, e, r⟩
  | .own y, x, _, _ => x
  | .xd fs, x, _, _ => x
  | .rng lo hi, x, _, _ => x
  | .frz ob u, x, y, d => ⟨x.1, objOk_less u x.2 y.2 d⟩
  | .tbl ps, x, _, _ => x
  | .met f y, x, _, _ => x
  | .ext φ, x, _, _ => x
theorem objOk_simple {H H' : Hp} {h : Heap} {a : Addr} {o : HO} (hs : simpleO o = true) (x : ObjOk P w H' h a o) : ObjOk P w H h a o := by
  cases o with
  | lst xs => exact x
  | tup xs => exact x
  | dK kvs => exact x
  | _ => cases hs
/-- a dict with tuple keys that stood and stands -/
theorem objOk_kept {H : Hp} {h h' : Heap} {a : Addr} : ∀ (o : HO), ObjOk P w H h a o → dtree o = true → (∀ u, h.get? a = some u → h'.get? a = some u) → ObjOk P w H h' a o
  | .dT kvs, x, _, k => by
    obtain ⟨z, y, xs, r, ob, es, ep, e, c⟩ := x
    exact ⟨z, y, xs, r, ob, es, ep, k _ e, c⟩
  | .frz ob u, x, d, k => ⟨k _ x.1, objOk_kept u x.2 d k⟩
  | .lst xs, _, d, _ => by cases d
  | .tup xs, _, d, _ => by cases d
  | .dK kvs, _, d, _ => by cases d
  | .set S n, _, d, _ => by cases d
  | .ins C dx fs, _, d, _ => by cases d
  | .own y, _, d, _ => by cases d
  | .xd fs, _, d, _ => by cases d
  | .rng lo hi, _, d, _ => by cases d
  | .tbl ps, _, d, _ => by cases d
  | .met f y, _, d, _ => by cases d
  | .ext φ, _, d, _ => by cases d
def updAll (H : Hp) : List (Addr × HO) → Hp
  | [] => H
  | p :: r => upd (updAll H r) p.1 p.2
theorem updAll_cases {H : Hp} {b : Addr} {o : HO} : ∀ {news : List (Addr × HO)}, updAll H news b = some o → (b, o) ∈ news ∨ H b = some o
  | [], h => .inr h
  | p :: r, h => by
    by_cases e : b = p.1
    · subst e
      rw [updAll, upd_same] at h
      cases h
      exact .inl List.mem_cons_self
    · rw [updAll, upd_ne e] at h
      rcases updAll_cases h with q | q
      · exact .inl (List.mem_cons_of_mem _ q)
      · exact .inr q
theorem updAll_old {H : Hp} {b : Addr} : ∀ {news : List (Addr × HO)}, (∀ p ∈ news, b ≠ p.1) → updAll H news b = H b
  | [], _ => rfl
  | p :: r, h => by
    rw [updAll, upd_ne (h p List.mem_cons_self), updAll_old fun q hq => h q (List.mem_cons_of_mem _ hq)]
/-- the state that remembers the entry's objects and the new ones alone -/
theorem forget_hok {H H' : Hp} {h h' : Heap} {fs : List Addr} {news : List (Addr × HO)} (ok : HOk P w H h) (un : Un fs [] (noDT H) H' h h') (ok' : HOk P w H' h') (hfs : ∀ b ∈ fs, H b = none) (same : Same (noDT H) H')
    (hn : ∀ p ∈ news, simpleO p.2 = true ∧ H' p.1 = some p.2 ∧ noDT H p.1 = none) : (∀ p ∈ news, H p.1 = none) ∧ HOk P w (updAll H news) h' ∧ Un fs [] H (updAll H news) h h' := by
  have gone : ∀ b o, h.get? b = some o → noDT H b = none → H' b = none := fun b o e n => un.free b o e n (by simp)
  have fresh : ∀ p ∈ news, h.get? p.1 = none := fun p hp => by
    obtain ⟨_, h2, h3⟩ := hn p hp
    cases e : h.get? p.1 with
    | none => rfl
    | some o =>
      rw [gone _ _ e h3] at h2
      cases h2
  have freeH : ∀ p ∈ news, H p.1 = none := fun p hp => ok.gone (fresh p hp)
  have apart : ∀ b o, H b = some o → ∀ p ∈ news, b ≠ p.1 := fun b o e p hp z => by
    rw [z, freeH p hp] at e
    cases e
  have old : ∀ b o, H b = some o → updAll H news b = some o := fun b o e => (updAll_old (apart b o e)).trans e
  have dkeep : ∀ b o, H b = some o → dtree o = true → ∀ u, h.get? b = some u → h'.get? b = some u := fun b o e d u q => by
    have nb : noDT H b = none := by
      unfold noDT
      rw [e]
      dsimp only
      rw [if_pos d]
    refine un.keep b u q nb (fun hb => ?_) (by simp)
    rw [hfs b hb] at e
    cases e
  refine ⟨freeH, fun b o e => ?_, ?_⟩
  · rcases updAll_cases e with q | q
    · exact objOk_simple (hn _ q).1 (ok' b o (hn _ q).2.1)
    · have base : ObjOk P w H h' b o := by
        cases d : dtree o with
        | false => exact objOk_less o (ok' b o (same b o (noDT_of q d))) (ok b o q) d
        | true => exact objOk_kept o (ok b o q) d (dkeep b o q d)
      exact base.stay (fun _ _ _ z => z) (fun c z => old _ _ z) fun c xs z => old _ _ z
  · refine ⟨fun b o e n hb hx => un.keep b o e (noDT_n n) hb hx, fun b o e n hb hx => un.slot b o e (noDT_n n) hb hx, fun b o e n hx => ?_, un.there, fun b xs e => old _ _ e, fun b o u e => old _ _ e, fun b ps e => ⟨#[], by rw [old _ _ e]; simp⟩⟩
    rw [updAll_old fun p hp z => by
      rw [z, fresh p hp] at e
      cases e]
    exact n
end
section
variable {P : Program} {w : World} {K : PySem.W.Frag} {mg : Str → Option Value} {base : Heap} {k : Nat} {f : Addr} {fd : FuncData} {ps : List Str} {sp sp' : Sp}
theorem objOk_noDT {H : Hp} {h : Heap} {a : Addr} : ∀ (o : HO), ObjOk P w H h a o → dtree o = false → ObjOk P w (noDT H) h a o
  | .lst xs, x, _ => x
  | .tup xs, x, _ => x
  | .dK kvs, x, _ => x
  | .dT kvs, x, d => by cases d
  | .set S n, x, _ => x
  | .ins C dx fs, x, _ => by
    obtain ⟨d, r⟩ := x
    exact ⟨noDT_of d rfl, r⟩
  | .own y, x, _ => x
  | .xd fs, x, _ => x
  | .rng lo hi, x, _ => x
  | .frz ob u, x, d => ⟨x.1, objOk_noDT u x.2 d⟩
  | .tbl ps, x, _ => x
  | .met f y, x, _ => x
  | .ext φ, x, _ => x
theorem env0_noDT {A : Around} {outer : List Env} {s : Shared} {H : Hp} (e : Env0 P w K mg base A outer s H) : Env0 P w K mg base A outer s (noDT H) where
  frames := e.frames
  mod := e.mod
  bs := fun b o q => ⟨(e.bs b o q).1, noDT_n (e.bs b o q).2⟩
  bsz := e.bsz
  funs := e.funs
  frf := fun b hb => noDT_n (e.frf b hb)
  hok := fun b o q => objOk_noDT o (e.hok b o (noDT_some q).1) (noDT_some q).2
  bare := e.bare
/-- what the call has made is forgotten but for the news -/
def Fgt (H : Hp) (Q : VK) (v : V) (H' : Hp) : Prop := Same (noDT H) H' ∧ ∃ news : List (Addr × HO), (∀ p ∈ news, simpleO p.2 = true ∧ H' p.1 = some p.2 ∧ noDT H p.1 = none) ∧ ((∀ p ∈ news, H p.1 = none) → Q v (updAll H news))
theorem ce_forget {A : Around} {outer : List Env} {s s' : Shared} {H : Hp} {Q : VK} {u : Value} (e0 : Env0 P w K mg base A outer s H) (h : CE outer P w (noDT H) s (Fgt H Q) u s') : CE outer P w H s Q u s' := by
  obtain ⟨v, H', os, bare, un, hok, r, same, news, hn, q⟩ := h
  obtain ⟨h1, h2, h3⟩ := forget_hok e0.hok un hok e0.frf same hn
  exact ⟨v, _, os, bare, h3, h2, r, q h1⟩
theorem FnOk.forget (F : FnOk P w K mg base CX0 k f fd ps sp) (h : ∀ vs H Q E, sp' vs H Q E → sp vs (noDT H) (Fgt H Q) E) : FnOk P w K mg base CX0 k f fd ps sp' :=
  ⟨fun vs H Q E q => F.len vs _ _ E (h _ _ _ _ q), fun A outer s H args us vs Q E hr he hb hv hs => by
    refine codeAny_mono (F.run A outer s (noDT H) args us vs (Fgt H Q) E hr (env0_noDT he) hb hv (h _ _ _ _ hs)) fun r s' hq => ?_
    cases r with
    | error e => exact hq
    | ok fl =>
      cases fl with
      | ret u => exact ce_forget he hq
      | next => exact hq
      | brk => exact hq
      | cont => exact hq⟩
theorem cx_forget {A : Around} {outer : List Env} {s s' : Shared} {H : Hp} {E : XK} {u : Value} (e0 : Env0 P w K mg base A outer s H) (h : L2.CX P w outer (noDT H) s (fun cls d H' => Same (noDT H) H' ∧ E cls d H) u s') : L2.CX P w outer H s E u s' := by
  obtain ⟨a, B, H', cls, d, rfl, fl, hok, ub, ha, os, bare, same, q⟩ := h
  have dkeep : ∀ b o, H b = some o → dtree o = true → ∀ u, s.heap.get? b = some u → B.get? b = some u := fun b o e d u q => by
    have nb : noDT H b = none := by
      unfold noDT
      rw [e]
      dsimp only
      rw [if_pos d]
    refine ub.keep b u q nb fun hb => ?_
    rw [e0.frf b hb] at e
    cases e
  refine ⟨a, B, H, cls, d, rfl, fl, fun b o q => ?_, ⟨fun b o e n hb => ub.keep b o e (noDT_n n) hb, ub.slot, fun b o e n => n, ub.there, fun b xs e => e, fun b o xs e => e, fun b ps e => ⟨#[], by rw [e]; simp⟩⟩, ?_, os, bare, q⟩
  · cases d : dtree o with
    | false => exact objOk_less o (hok b o (same b o (noDT_of q d))) (e0.hok b o q) d
    | true => exact objOk_kept o (e0.hok b o q) d (dkeep b o q d)
  · cases e : H a with
    | none => rfl
    | some o =>
      cases d : dtree o with
      | false =>
        rw [same a o (noDT_of e d)] at ha
        cases ha
      | true =>
        obtain ⟨ob, q1⟩ := objOk_get (e0.hok a o e)
        have q2 := dkeep a o e d ob q1
        have z : B.get? a = none := fl.2.1
        rw [q2] at z
        cases z
theorem FnOk.forgetX (F : FnOk P w K mg base (L2.CX P w) k f fd ps sp) (h : ∀ vs H Q E, sp' vs H Q E → sp vs (noDT H) (Fgt H Q) (fun cls d H' => Same (noDT H) H' ∧ E cls d H)) : FnOk P w K mg base (L2.CX P w) k f fd ps sp' :=
  ⟨fun vs H Q E q => F.len vs _ _ _ (h _ _ _ _ q), fun A outer s H args us vs Q E hr he hb hv hs => by
    refine codeAny_mono (F.run A outer s (noDT H) args us vs (Fgt H Q) _ hr (env0_noDT he) hb hv (h _ _ _ _ hs)) fun r s' hq => ?_
    cases r with
    | error e => exact cx_forget he hq
    | ok fl =>
      cases fl with
      | ret u => exact ce_forget he hq
      | next => exact hq
      | brk => exact hq
      | cont => exact hq⟩
end
end Pw

/-! Promises, first part. -/
namespace Pw
open PySem PySem.Spec PyProof.Rows L2
def st (n : Nat) (vs : List V) : L2.St := vs.map some ++ List.replicate (n - vs.length) none
def ends (R : VK) : Ends := { nx := fun _ H' => R .non H', rt := R }
theorem fgt0 {H H' : Hp} {Q : VK} {v : V} (same : Same (noDT H) H') (q : Q v H) : Fgt H Q v H' := ⟨same, [], by simp, fun _ => q⟩
theorem fgt1 {H H' : Hp} {Q : VK} {v : V} {p : Addr} {o : HO} (same : Same (noDT H) H') (hs : simpleO o = true) (hp : H' p = some o) (np : noDT H p = none) (q : H p = none → Q v (upd H p o)) : Fgt H Q v H' :=
  ⟨same, [(p, o)], by simp [hs, hp, np], fun h => q (h (p, o) (by simp))⟩
theorem same_new {H : Hp} {p : Addr} {o : HO} (h : H p = none) : Same H (upd H p o) := fun b x e => by
  rw [upd_ne (ne_of_none e h)]
  exact e
theorem Same.new {H H1 : Hp} {p : Addr} {o : HO} (s : Same H H1) (h : H1 p = none) : Same H (upd H1 p o) := s.trans (same_new h)
/-- an object that H does not know may change -/
theorem Same.mut {H H1 : Hp} {p : Addr} {o : HO} (s : Same H H1) (h : H p = none) : Same H (upd H1 p o) := fun b x e => by
  rw [upd_ne (ne_of_none e h)]
  exact s b x e
theorem Same.sqt {K : PySem.W.Frag} {H H' : Hp} {a : Addr} {xs : List V} (e : Same H H') (h : SqT K H a xs) : SqT K H' a xs := by
  rcases h with (h | ⟨o, h⟩) | h
  · exact .inl (.inl (e _ _ h))
  · exact .inl (.inr ⟨o, e _ _ h⟩)
  · exact .inr h
section
variable {K : PySem.W.Frag} {C : Ad} {H : Hp} {Q : VK} {E : XK}
def cellAt (ns : List Int) (k : Nat) : Int := ns.getD k 0
def sp_l_of (K : PySem.W.Frag) (C : Ad) : Sp := fun vs H Q _ => ∃ (a : Addr) (ns : List Int) (k : Nat), vs = [.ref a, .int (k : Int)] ∧ SqL K H a (ns.map V.int) ∧ Q (.int (cellAt ns k)) H
theorem i_l_of {a : Addr} {ns : List Int} {z : Int} {k : Nat} (e : z = (k : Int)) (h : SqL K H a (ns.map V.int)) (q : Q (.int (cellAt ns k)) H) : sp_l_of K C [.ref a, .int z] H Q E := ⟨a, ns, k, by rw [e], h, q⟩
def sp_l_signs (K : PySem.W.Frag) (C : Ad) : Sp := fun vs H Q _ => vs = [] ∧ Q (vS signs) H
theorem i_l_signs (q : Q (vS signs) H) : sp_l_signs K C [] H Q E := ⟨rfl, q⟩
def optV : Option (List Nat) → V
  | some m => vS m
  | none => .non
def sp_l_read (K : PySem.W.Frag) (C : Ad) : Sp := fun vs H Q _ => ∃ l : List Nat, vs = [vS l] ∧ l.length ≤ 900000 ∧ Q (optV (nameOf l)) H
theorem i_l_read {l : List Nat} (h : l.length ≤ 900000) (q : Q (optV (nameOf l)) H) : sp_l_read K C [vS l] H Q E := ⟨l, rfl, h, q⟩
/-- a piece of at most three signs -/
def sp_l_piece_by (K : PySem.W.Frag) (C : Ad) : Sp := fun vs H Q _ => ∃ c : Int, vs = [.int c] ∧ ∀ l : List Nat, l.length ≤ 3 → Q (vS l) H
theorem i_l_piece_by {c : Int} (q : ∀ l : List Nat, l.length ≤ 3 → Q (vS l) H) : sp_l_piece_by K C [.int c] H Q E := ⟨c, rfl, q⟩
def sp_l_broken_by (K : PySem.W.Frag) (C : Ad) : Sp := fun vs H Q _ => ∃ c : Int, vs = [.int c] ∧ ∀ l : List Nat, l.length ≤ 3 → Q (vS l) H
theorem i_l_broken_by {c : Int} (q : ∀ l : List Nat, l.length ≤ 3 → Q (vS l) H) : sp_l_broken_by K C [.int c] H Q E := ⟨c, rfl, q⟩
def sp_p_sign_of (K : PySem.W.Frag) (C : Ad) : Sp := fun vs H Q E => ∃ l : List Nat, vs = [vS l] ∧ l.length ≤ 2 ∧ (∀ s, signOf l = some s → Q (vS [s]) H) ∧ (signOf l = none → E (.ref C.B) none H)
theorem i_p_sign_of {l : List Nat} (h : l.length ≤ 2) (q : ∀ s, signOf l = some s → Q (vS [s]) H) (e : signOf l = none → E (.ref C.B) none H) : sp_p_sign_of K C [vS l] H Q E := ⟨l, rfl, h, q, e⟩
def sp_p_name_of (K : PySem.W.Frag) (C : Ad) : Sp := fun vs H Q E => ∃ l : List Nat, vs = [vS l] ∧ l.length ≤ 900000 ∧ (∀ m, nameOf l = some m → Q (vS m) H) ∧ (nameOf l = none → E (.ref C.B) none H)
theorem i_p_name_of {l : List Nat} (h : l.length ≤ 900000) (q : ∀ m, nameOf l = some m → Q (vS m) H) (e : nameOf l = none → E (.ref C.B) none H) : sp_p_name_of K C [vS l] H Q E := ⟨l, rfl, h, q, e⟩
def sp_law (K : PySem.W.Frag) (C : Ad) : Sp := fun vs H Q _ => ∃ (a : Addr) (ns : List Int), vs = [.ref a] ∧ SqL K H a (ns.map V.int) ∧ ns.length ≤ 63 ∧ ∀ H', Q (.bl true) H'
end
end Pw

/-! Promises: names. -/
namespace Pw
open PySem PySem.Spec PyProof.Rows L2
section
variable {K : PySem.W.Frag} {C : Ad} {H : Hp} {Q : VK} {E : XK}
/-- a name that a law draws -/
structure Nm (l : List Nat) : Prop where
  nd : Named l
  lo : l ≠ []
  hi : l.length ≤ 43
def sp_l_name_by (K : PySem.W.Frag) (C : Ad) : Sp := fun vs H Q _ => ∃ c : Int, vs = [.int c] ∧ ∀ l : List Nat, Nm l → Q (vS l) H
theorem i_l_name_by {c : Int} (q : ∀ l : List Nat, Nm l → Q (vS l) H) : sp_l_name_by K C [.int c] H Q E := ⟨c, rfl, q⟩
def sp_p_escaped (K : PySem.W.Frag) (C : Ad) : Sp := fun vs H Q _ => ∃ c : Nat, vs = [vS [c]] ∧ Sign c ∧ Q (vS (esc c)) H
theorem i_p_escaped {c : Nat} (h : Sign c) (q : Q (vS (esc c)) H) : sp_p_escaped K C [vS [c]] H Q E := ⟨c, rfl, h, q⟩
def sp_l_escape (K : PySem.W.Frag) (C : Ad) : Sp := fun vs H Q _ => ∃ c : Nat, vs = [vS [c]] ∧ Sign c ∧ Q (vS (esc c)) H
theorem i_l_escape {c : Nat} (h : Sign c) (q : Q (vS (esc c)) H) : sp_l_escape K C [vS [c]] H Q E := ⟨c, rfl, h, q⟩
def sp_p_written (K : PySem.W.Frag) (C : Ad) : Sp := fun vs H Q _ => ∃ n : List Nat, vs = [vS n] ∧ Named n ∧ n.length ≤ 1000 ∧ Q (vS (written n)) H
theorem i_p_written {n : List Nat} (h : Named n) (hl : n.length ≤ 1000) (q : Q (vS (written n)) H) : sp_p_written K C [vS n] H Q E := ⟨n, rfl, h, hl, q⟩
def sp_l_must (K : PySem.W.Frag) (C : Ad) : Sp := fun vs H Q _ => ∃ (n : List Nat) (i c : Nat), vs = [vS n, .int (i : Int)] ∧ n[i]? = some c ∧ n.length ≤ 1000 ∧ Q (.bl (must n i c)) H
theorem i_l_must {n : List Nat} {i c : Nat} (h : n[i]? = some c) (hl : n.length ≤ 1000) (q : Q (.bl (must n i c)) H) : sp_l_must K C [vS n, .int (i : Int)] H Q E := ⟨n, i, c, rfl, h, hl, q⟩
def sp_l_due_part (K : PySem.W.Frag) (C : Ad) : Sp := fun vs H Q _ => ∃ n : List Nat, vs = [vS n] ∧ Named n ∧ n.length ≤ 1000 ∧ Q (vS (written n)) H
theorem i_l_due_part {n : List Nat} (h : Named n) (hl : n.length ≤ 1000) (q : Q (vS (written n)) H) : sp_l_due_part K C [vS n] H Q E := ⟨n, rfl, h, hl, q⟩
end
end Pw

/-! Promises: steps, paths, places. -/
namespace Pw
open PySem PySem.Spec PyProof.Rows L2
def tagRoot : List Nat := [114, 111, 111, 116]
def tagUp : List Nat := [117, 112]
def tagShare : List Nat := [115, 104, 97, 114, 101]
def tagName : List Nat := [110, 97, 109, 101]
/-- a step's texts -/
def stepT : Step → List (List Nat)
  | .root => [[114, 111, 111, 116]]
  | .up => [[117, 112]]
  | .share n => [[115, 104, 97, 114, 101], n]
  | .name n => [[110, 97, 109, 101], n]
def stepV (s : Step) : List V := (stepT s).map vS
section
variable {K : PySem.W.Frag}
def StepAt (K : PySem.W.Frag) (H : Hp) (v : V) (s : Step) : Prop := ∃ a, v = .ref a ∧ SqT K H a (stepV s)
/-- the list at p holds the steps ss -/
def Steps (K : PySem.W.Frag) (H : Hp) (p : Addr) (ss : List Step) : Prop := ∃ vs, H p = some (.lst vs) ∧ Paired (StepAt K H) vs ss
/-- the pair of a line and its steps -/
def PathAt (K : PySem.W.Frag) (H : Hp) (v : V) (l : List Nat) (ss : List Step) : Prop := ∃ t p, v = .ref t ∧ SqT K H t [vS l, .ref p] ∧ Steps K H p ss
theorem StepAt.same {H H' : Hp} {v : V} {s : Step} (e : Same H H') (h : StepAt K H v s) : StepAt K H' v s := by
  obtain ⟨a, rfl, h⟩ := h
  exact ⟨a, rfl, Same.sqt e h⟩
theorem paired_mono {α β : Type} {R R' : α → β → Prop} (hR : ∀ x y, R x y → R' x y) : ∀ {xs : List α} {ys : List β}, Paired R xs ys → Paired R' xs ys := by
  intro xs ys h
  induction h with
  | nil => exact .nil
  | cons r _ ih => exact .cons (hR _ _ r) ih
theorem paired_app {α β : Type} {R : α → β → Prop} {as : List α} {bs : List β} {cs : List α} {ds : List β} (h : Paired R as bs) (h2 : Paired R cs ds) : Paired R (as ++ cs) (bs ++ ds) := by
  induction h with
  | nil => exact h2
  | cons r _ ih => exact .cons r ih
theorem paired_get {α β : Type} {R : α → β → Prop} : ∀ {as : List α} {bs : List β} {i : Nat} {x : α}, Paired R as bs → as[i]? = some x → ∃ y, bs[i]? = some y ∧ R x y
  | _, _, _, _, .nil, h => by simp at h
  | _, _, 0, _, .cons r _, h => by
    simp at h
    subst h
    exact ⟨_, rfl, r⟩
  | _, _, i + 1, _, .cons _ t, h => by
    rw [List.getElem?_cons_succ] at h ⊢
    exact paired_get (i := i) t h
theorem paired_getR {α β : Type} {R : α → β → Prop} : ∀ {as : List α} {bs : List β} {i : Nat} {y : β}, Paired R as bs → bs[i]? = some y → ∃ x, as[i]? = some x ∧ R x y
  | _, _, _, _, .nil, h => by simp at h
  | _, _, 0, _, .cons r _, h => by
    simp at h
    subst h
    exact ⟨_, rfl, r⟩
  | _, _, i + 1, _, .cons _ t, h => by
    rw [List.getElem?_cons_succ] at h ⊢
    exact paired_getR (i := i) t h
theorem paired_len {α β : Type} {R : α → β → Prop} {as : List α} {bs : List β} (h : Paired R as bs) : as.length = bs.length := by
  induction h with
  | nil => rfl
  | cons _ _ ih => simp [ih]
theorem Steps.same {H H' : Hp} {p : Addr} {ss : List Step} (e : Same H H') (h : Steps K H p ss) : Steps K H' p ss := by
  obtain ⟨vs, h1, h2⟩ := h
  exact ⟨vs, e _ _ h1, paired_mono (fun _ _ r => r.same e) h2⟩
theorem PathAt.same {H H' : Hp} {v : V} {l : List Nat} {ss : List Step} (e : Same H H') (h : PathAt K H v l ss) : PathAt K H' v l ss := by
  obtain ⟨t, p, rfl, h1, h2⟩ := h
  exact ⟨t, p, rfl, Same.sqt e h1, h2.same e⟩
/-- a tuple stays where a list changes -/
theorem sqt_upd {H : Hp} {a p : Addr} {o : HO} {xs ts : List V} (h : H p = some (.lst xs)) (e : SqT K H a ts) : SqT K (upd H p o) a ts := by
  rcases e with (e | ⟨o', e⟩) | e
  · refine .inl (.inl ?_)
    rw [upd_ne]
    · exact e
    · intro z
      rw [z, h] at e
      cases e
  · refine .inl (.inr ⟨o', ?_⟩)
    rw [upd_ne]
    · exact e
    · intro z
      rw [z, h] at e
      cases e
  · exact .inr e
theorem StepAt.upd {H : Hp} {p : Addr} {o : HO} {xs : List V} {v : V} {s : Step} (h : H p = some (.lst xs)) (e : StepAt K H v s) : StepAt K (upd H p o) v s := by
  obtain ⟨a, rfl, e⟩ := e
  exact ⟨a, rfl, sqt_upd h e⟩
theorem Steps.put {H : Hp} {p : Addr} {xs vs : List V} {ss : List Step} (h : H p = some (.lst xs)) (e : Paired (StepAt K H) vs ss) : Steps K (upd H p (.lst vs)) p ss := ⟨vs, upd_same, paired_mono (fun _ _ r => r.upd h) e⟩
theorem Steps.other {H : Hp} {p q : Addr} {o : HO} {xs : List V} {ss : List Step} (h : H p = some (.lst xs)) (ne : q ≠ p) (e : Steps K H q ss) : Steps K (upd H p o) q ss := by
  obtain ⟨vs, h1, h2⟩ := e
  refine ⟨vs, ?_, paired_mono (fun _ _ r => r.upd h) h2⟩
  rw [upd_ne ne]
  exact h1
/-- what a step may hold -/
def StepOk (names : List (List Nat)) : Step → Prop
  | .root => True
  | .up => True
  | .share n => n ∈ names
  | .name n => Nm n
variable {C : Ad} {H : Hp} {Q : VK} {E : XK}
/-- a part that tells the name n -/
structure Part (n p : List Nat) : Prop where
  tells : nameOf p = some n
  free : 47 ∉ p
  plain : n ≠ [] → PlainPart p
  len : p.length ≤ 3 * n.length + 2
def sp_l_cells (K : PySem.W.Frag) (C : Ad) : Sp := fun vs H Q _ => ∃ (a : Addr) (ns : List Int) (s : Nat) (m : Int) (b : Bool), vs = [.ref a, .int (s : Int), .int m, .bl b] ∧ SqL K H a (ns.map V.int) ∧ -1000 ≤ m ∧ m ≤ 1000 ∧
  ∀ (p : Addr) (cs : List Int), H p = none → (cs.length : Int) ≤ 60 ∨ (cs.length : Int) ≤ m → Q (.ref p) (upd H p (.lst (cs.map V.int)))
theorem i_l_cells {a : Addr} {ns : List Int} {s : Int} {m : Int} {b : Bool} (hs : 0 ≤ s) (h : SqL K H a (ns.map V.int)) (hm : -1000 ≤ m ∧ m ≤ 1000) (q : ∀ (p : Addr) (cs : List Int), H p = none → (cs.length : Int) ≤ 60 ∨ (cs.length : Int) ≤ m → Q (.ref p) (upd H p (.lst (cs.map V.int)))) : sp_l_cells K C [.ref a, .int s, .int m, .bl b] H Q E := ⟨a, ns, s.toNat, m, b, by rw [Int.toNat_of_nonneg hs], h, hm.1, hm.2, q⟩
def sp_l_part_by (K : PySem.W.Frag) (C : Ad) : Sp := fun vs H Q _ => ∃ (n : List Nat) (c : Int), vs = [vS n, .int c] ∧ Named n ∧ n.length ≤ 1000 ∧ ∀ p, Part n p → Q (vS p) H
theorem i_l_part_by {n : List Nat} {c : Int} (h : Named n) (hl : n.length ≤ 1000) (q : ∀ p, Part n p → Q (vS p) H) : sp_l_part_by K C [vS n, .int c] H Q E := ⟨n, c, rfl, h, hl, q⟩
def sp_l_share_by (K : PySem.W.Frag) (C : Ad) : Sp := fun vs H Q _ => ∃ (n : List Nat) (c : Int), vs = [vS n, .int c] ∧ Named n ∧ n.length ≤ 1000 ∧ ∀ p, nameOf p = some n → 47 ∉ p → p.length ≤ 3 * n.length + 2 → Q (vS (64 :: p)) H
theorem i_l_share_by {n : List Nat} {c : Int} (h : Named n) (hl : n.length ≤ 1000) (q : ∀ p, nameOf p = some n → 47 ∉ p → p.length ≤ 3 * n.length + 2 → Q (vS (64 :: p)) H) : sp_l_share_by K C [vS n, .int c] H Q E := ⟨n, c, rfl, h, hl, q⟩
/-- names that a law has drawn, or none -/
def NmE (names : List (List Nat)) : Prop := ∀ n ∈ names, Named n ∧ n.length ≤ 43
/-- a path drawn of m cells: its line and its steps -/
structure Drawn (names : List (List Nat)) (m : Nat) (l : List Nat) (ss : List Step) : Prop where
  steps : stepsOf l = some ss
  ok : ∀ s ∈ ss, StepOk names s
  len : l.length ≤ 140 * m
  num : ss.length ≤ m + 1
def sp_l_path_by (K : PySem.W.Frag) (C : Ad) : Sp := fun vs H Q _ => ∃ (a b : Addr) (cs : List Int) (names : List (List Nat)), vs = [.ref a, .ref b] ∧ SqL K H a (cs.map V.int) ∧ SqL K H b (names.map vS) ∧ cs.length ≤ 1000 ∧ NmE names ∧ names.length ≤ 1000 ∧
  ∀ v H' l ss, Same H H' → PathAt K H' v l ss → Drawn names cs.length l ss → Q v H'
theorem i_l_path_by {a b : Addr} {cs : List Int} {names : List (List Nat)} (h : SqL K H a (cs.map V.int)) (h2 : SqL K H b (names.map vS)) (hl : cs.length ≤ 1000) (hn : NmE names) (hnl : names.length ≤ 1000)
    (q : ∀ v H' l ss, Same H H' → PathAt K H' v l ss → Drawn names cs.length l ss → Q v H') : sp_l_path_by K C [.ref a, .ref b] H Q E := ⟨a, b, cs, names, rfl, h, h2, hl, hn, hnl, q⟩
def sp_p_step_of (K : PySem.W.Frag) (C : Ad) : Sp := fun vs H Q E => ∃ l : List Nat, vs = [vS l] ∧ l.length ≤ 900000 ∧ (∀ ss p H', stepOf l = some ss → Same H H' → Steps K H' p ss → H p = none → Q (.ref p) H') ∧ (stepOf l = none → E (.ref C.B) none H)
theorem i_p_step_of {l : List Nat} (h : l.length ≤ 900000) (q : ∀ ss p H', stepOf l = some ss → Same H H' → Steps K H' p ss → H p = none → Q (.ref p) H') (e : stepOf l = none → E (.ref C.B) none H) : sp_p_step_of K C [vS l] H Q E := ⟨l, rfl, h, q, e⟩
def sp_p_steps_of (K : PySem.W.Frag) (C : Ad) : Sp := fun vs H Q E => ∃ l : List Nat, vs = [vS l] ∧ l.length ≤ 900000 ∧ (∀ ss p H', stepsOf l = some ss → Same H H' → Steps K H' p ss → H p = none → Q (.ref p) H') ∧ (stepsOf l = none → ∀ H', Same H H' → E (.ref C.B) none H')
theorem i_p_steps_of {l : List Nat} (h : l.length ≤ 900000) (q : ∀ ss p H', stepsOf l = some ss → Same H H' → Steps K H' p ss → H p = none → Q (.ref p) H') (e : stepsOf l = none → ∀ H', Same H H' → E (.ref C.B) none H') : sp_p_steps_of K C [vS l] H Q E := ⟨l, rfl, h, q, e⟩
/-- every text of the steps is of signs -/
def StepNd : Step → Prop
  | .root => True
  | .up => True
  | .share n => Named n
  | .name n => Named n
def sp_l_alike (K : PySem.W.Frag) (C : Ad) : Sp := fun vs H Q _ => ∃ (p q : Addr) (ss : List Step), vs = [.ref p, .ref q] ∧ Steps K H p ss ∧ Steps K H q ss ∧ (∀ s ∈ ss, StepNd s) ∧ ss.length ≤ 100000 ∧ ∀ H', Same H H' → Q (.bl true) H'
theorem i_l_alike {p q : Addr} {ss : List Step} (h1 : Steps K H p ss) (h2 : Steps K H q ss) (hn : ∀ s ∈ ss, StepNd s) (hl : ss.length ≤ 100000) (k : ∀ H', Same H H' → Q (.bl true) H') : sp_l_alike K C [.ref p, .ref q] H Q E := ⟨p, q, ss, rfl, h1, h2, hn, hl, k⟩
end
end Pw

namespace Pw
open PySem PySem.Spec PyProof.Rows L2
section
variable {X : Cx} {a b : Expr} {ta tb : TE} {pos : Pos} {rest : List Stmt} {u : TS}
theorem pet_ix {r : R2} (hr : IxR X r) (ha : PET X a ta) (hb : PE X b tb) (hs : PlainIx b) : PET X (.Subscript a b pos) (tOp r ta tb) := by
  intro pins s σ H Q h0 I h
  refine Subscript_ (thn (ha pins s σ H _ h0 I h) fun v s1 hh => ?_)
  obtain ⟨x, H1, I1, rx, q1⟩ := hh
  refine thn (hb.run pins s1 σ H1 _ I1 q1) fun w s2 hh => ?_
  obtain ⟨y, H2, I2, ry, q2⟩ := hh
  exact hr a b pins s2 σ H2 x y v w Q I2 rx ry q2 (hs _ _)
/-- name = e op number: behind it a token is out -/
theorem pss_opT {i j : Nat} {z : Int} {x : Str} {op : Operator} {r : R2} {cpos bpos pos' : Pos} (hN : X.N.Nodup) (hi : X.N[i]? = some x) (hx : Loc X.env.scope x) (ho : OpR X (binaryOp op) r) (ha : PE X a ta) (h2 : PSsT X rest u)
    (hs : swapsWith (.BinOp a op (.Constant (.int z) j cpos) bpos) (some (.Name x pos')) pos.line X.env = pure false := by rfl) (hf : X.fn x = true ∨ X.env.scope.names.lookup x = some .local := by first | exact .inl rfl | exact .inr rfl | assumption) :
    PSs X (.Assign [.Name x pos'] (.BinOp a op (.Constant (.int z) j cpos) bpos) pos :: rest) (tSeq (tAsg (tOp r ta (tC (.int z))) (gName i)) u) := by
  refine ⟨fun pins s σ H D I h => ?_⟩
  refine wpAny_execs_cons (wpAny_Assign_Name (wpAny_BinOp (thn (ha.run pins s σ H _ I h) fun v s1 hh => ?_)) hs)
  obtain ⟨x1, H1, I1, r1, q1⟩ := hh
  refine wpAny_Constant_int ?_
  have hop := ho pins { s1 with toks := s1.toks + 1 } σ H1 x1 (.int z) v (.int z s1.toks) _ (I1.tok _) r1 ⟨_, rfl⟩ q1
  refine wpAny_mono (PySem.wpAny_toks hop) (fun w s2 q => ?_) fun _ _ z => z.2
  obtain ⟨hk, x2, H2, I2, r2, q2⟩ := q
  have hk : s1.toks + 1 ≤ s2.toks := hk
  refine wpAny_mono (PySem.wpAny_toks (store_ok (v := x2) (u := w) (Q := fun _ s3 => Inv X pins (σ.set i (some x2)) H2 s3) I2 hN hi hx r2 (fun _ I3 => I3) hf)) (fun _ s3 q => ?_) fun _ _ z => z.2
  exact h2 pins s3 _ H2 D (by have := q.1; omega) q.2 q2
end
end Pw

/-! Readings: lists. -/
namespace Pw
open PySem PySem.Spec PyProof.Rows L2
section
variable {K : PySem.W.Frag} {H : Hp} {Q : VK}
theorem i_cat {l b : Addr} {xs zs : List V} (h1 : H l = some (.lst xs)) (h2 : H b = some (.lst zs)) (hl : xs.length + zs.length ≤ 1000000) (q : ∀ p, H p = none → Q (.ref p) (upd H p (.lst (xs ++ zs)))) : rCat (.ref l) (.ref b) H Q := ⟨l, b, xs, zs, rfl, rfl, h1, h2, to_line hl, q⟩
theorem i_rep {l : Addr} {xs : List V} {z : Int} {n : Nat} (e : z = (n : Int)) (h1 : H l = some (.lst xs)) (hn : n ≤ 1000000) (hl : xs.length * n ≤ 1000000) (q : ∀ p, H p = none → Q (.ref p) (upd H p (.lst (List.replicate n xs).flatten))) : rRep (.ref l) (.int z) H Q :=
  ⟨l, (n : Int), xs, rfl, by rw [e], h1, by omega, by omega, by rw [Int.toNat_natCast]; exact to_line hl, by rw [Int.toNat_natCast]; exact q⟩
theorem i_append {l : Addr} {xs : List V} {y : V} (h : H l = some (.lst xs)) (hl : xs.length < 1000000) (q : Q .non (upd H l (.lst (xs ++ [y])))) : rAppend (.ref l) [y] H Q := ⟨l, xs, y, rfl, rfl, h, to_lineL hl, q⟩
theorem i_extend {l b : Addr} {xs zs : List V} (h : H l = some (.lst xs)) (h2 : H b = some (.lst zs)) (hl : xs.length + zs.length ≤ 1000000) (q : Q .non (upd H l (.lst (xs ++ zs)))) : rExtend (.ref l) [.ref b] H Q := ⟨l, b, xs, zs, rfl, rfl, h, h2, to_line hl, q⟩
theorem i_mkL {xs : List V} (hl : xs.length ≤ 1000000) (q : ∀ p, H p = none → Q (.ref p) (upd H p (.lst xs))) : xs.length ≤ sizeLine ∧ ∀ p, H p = none → Q (.ref p) (upd H p (.lst xs)) := ⟨to_line hl, q⟩
theorem i_mkT {xs : List V} (hl : xs.length ≤ 1000000) (q : ∀ p, H p = none → Q (.ref p) (upd H p (.tup xs))) : xs.length ≤ sizeLine ∧ ∀ p, H p = none → Q (.ref p) (upd H p (.tup xs)) := ⟨to_line hl, q⟩
theorem i_tyL {A : Prop} {l : Addr} {xs : List V} (h : H l = some (.lst xs)) (a : A) : tyV K "list" (.ref l) H ∧ A := ⟨.inl ⟨rfl, _, SqL.of h⟩, a⟩
theorem lk {p q : Addr} {o u : HO} (h : H p = some o) (hq : H q = none) : upd H q u p = some o := by
  rw [upd_ne (ne_of_none h hq)]
  exact h
theorem i_raise {D : Ends} {σ : L2.St} {W : WX} {cls : Value} (q : W cls none σ H) : tRaise W cls D σ H := q
theorem i_strD' {z : Int} (h : 0 ≤ z ∧ z < 10) (q : Q (vS [48 + z.toNat]) H) : qStrD [.int z] H Q := i_strD (n := z.toNat) (by omega) (by omega) q
theorem i_strN' {z : Int} (h : 0 ≤ z ∧ z < 94) (q : Q (vS (numS z.toNat)) H) : qStrN [.int z] H Q := i_strN (n := z.toNat) (by omega) (by omega) q
theorem strike_S (l : List Nat) (c : Nat) : Txt.replace (S l) ⟨#[c]⟩ ⟨#[]⟩ = S (l.filter (· != c)) := TL.ext_tl (PyProof.Rows.replace_strikes (S l) c)
theorem i_repl {to : TE} {σ : L2.St} {l : List Nat} {c : Nat} {y z : Str} (hy : y = ⟨#[c]⟩) (hz : z = ⟨#[]⟩) (hl : l.length ≤ 1000000) (h : to σ H fun v H1 => v = vS l ∧ Q (vS (l.filter (· != c))) H1) (mono : ∀ Q Q' : VK, (∀ v H, Q v H → Q' v H) → to σ H Q → to σ H Q') : CwR.tReplC to y z σ H Q := by
  subst hy hz
  refine mono _ _ (fun v H1 hh => ?_) h
  obtain ⟨rfl, q⟩ := hh
  refine ⟨S l, rfl, ?_, ?_⟩
  · rw [S_len]
    show l.length + (l.length + 1) * 0 ≤ _
    omega
  · rw [strike_S]
    exact q
theorem i_cut {D : Ends} {σ : L2.St} {t u : TS} (Mid : L2.St → Hp → Prop) (h1 : t { D with nx := Mid } σ H) (h2 : ∀ σ' H', Mid σ' H' → u D σ' H') : C8.tCut t u D σ H := ⟨Mid, h1, h2⟩
theorem i_l_of' {C : Ad} {E : XK} {a : Addr} {ns : List Int} {z : Int} (hz : 0 ≤ z) (h : SqL K H a (ns.map V.int)) (q : Q (.int (cellAt ns z.toNat)) H) : sp_l_of K C [.ref a, .int z] H Q E := i_l_of (k := z.toNat) (by omega) h q
theorem new_ne {p q : Addr} {o : HO} (h : upd H p o q = none) : p ≠ q ∧ H q = none := by
  by_cases e : q = p
  · rw [e, upd_same] at h
    cases h
  · rw [upd_ne e] at h
    exact ⟨fun z => e z.symm, h⟩
theorem i_isStr {l : List Nat} (q : Q (.bl true) H) : rIsi K [vS l, .ty "str"] H Q := ⟨_, _, .type "str", .type "str", true, rfl, .ty _, .base (.str _), kit_ty (by decide +kernel), q⟩
end
theorem drop_at {α : Type} {l : List α} {i : Nat} {x : α} (h : l[i]? = some x) : l.drop i = x :: l.drop (i + 1) := by
  obtain ⟨h1, e⟩ := List.getElem?_eq_some_iff.mp h
  rw [← e]
  exact List.drop_eq_getElem_cons h1
theorem get_lt {α : Type} {l : List α} {i : Nat} (h : i < l.length) : l[i]? = some l[i] := List.getElem?_eq_getElem h
theorem cutN_one {α : Type} (l : List α) (k : Nat) : cutN l (some (k : Int)) (some ((k : Int) + 1)) = (l.drop k).take 1 := cutN_both l k 1
theorem cut_two (l : List Nat) (i : Nat) : cutN l (some ((i : Int) + 1)) (some ((i : Int) + 3)) = (l.drop (i + 1)).take 2 := cutN_both l (i + 1) 2
theorem cellAt_cut (ns : List Int) (k : Nat) : (((ns.map V.int).drop k).take 1 ++ [V.int 0])[0]? = some (V.int (cellAt ns k)) := by
  unfold cellAt
  cases h : ns[k]? with
  | none =>
    have hk : ns.length ≤ k := List.getElem?_eq_none_iff.mp h
    rw [List.drop_of_length_le (by simpa using hk), List.getD_eq_getElem?_getD, h]
    rfl
  | some x =>
    have h' : (ns.map V.int)[k]? = some (V.int x) := by
      rw [List.getElem?_map, h]
      rfl
    rw [drop_at h', List.getD_eq_getElem?_getD, h]
    rfl
end Pw

/-! Comprehensions read. -/
namespace Pw
open PySem PySem.Spec PyProof.Rows L2
section
variable {K : PySem.W.Frag}
theorem i_lc {wi : TI} {g : TG} {tt : TT} {te : TE} {vs : List Nat} {σ : L2.St} {H : Hp} {Q : VK} (h : wi σ H fun J H1 => ∀ D, H1 D = none → ∃ W : Nat → Nat → Hp → Prop, (∃ m, W 0 m (upd H1 D (.lst []))) ∧ ∀ i m H, W i m H →
    (J.stop i H ∧ Q (.ref D) H) ∨ (J.go i H ∧ ∃ Nx : Hp → Prop, (∀ H', Nx H' → ∃ m', m' < m ∧ W (i + 1) m' H') ∧ ∀ x H', J.yld i H x H' → g x (wipe σ vs) H' fun σ2 H2 => wipe σ2 vs = wipe σ vs ∧ tt σ2 H2 fun b H3 =>
      if b = true then te σ2 H3 fun y H4 => ∃ acc, H4 D = some (.lst acc) ∧ acc.length < sizeLine ∧ Nx (upd H4 D (.lst (acc ++ [y]))) else Nx H3)) : tLc wi g tt te vs σ H Q := h
/-- over a range, each element by a relation, no object made -/
theorem lc_rangeR {n i : Nat} {te : TE} {vs : List Nat} {σ : L2.St} {H1 : Hp} {D : Addr} {Qd : Hp → Prop} (R : Nat → V → Prop) (hD : H1 D = none) (hn : n ≤ 900000) (hw : ∀ x, wipe ((wipe σ vs).set i (some x)) vs = wipe σ vs)
    (he : ∀ k H, k < n → Same H1 H → ∀ Q : VK, (∀ y, R k y → Q y H) → te ((wipe σ vs).set i (some (.int (k : Int)))) H Q)
    (hd : ∀ ys : List V, ys.length = n → (∀ (k : Nat) y, ys[k]? = some y → R k y) → Qd (upd H1 D (.lst ys))) :
    ∃ W : Nat → Nat → Hp → Prop, (∃ m, W 0 m (upd H1 D (.lst []))) ∧ ∀ i' m H, W i' m H →
      ((Itr 0 n).stop i' H ∧ Qd H) ∨ ((Itr 0 n).go i' H ∧ ∃ Nx : Hp → Prop, (∀ H', Nx H' → ∃ m', m' < m ∧ W (i' + 1) m' H') ∧ ∀ x H', (Itr 0 n).yld i' H x H' → gName i x (wipe σ vs) H' fun σ2 H2 => wipe σ2 vs = wipe σ vs ∧ tYes σ2 H2 fun b H3 =>
        if b = true then te σ2 H3 fun y H4 => ∃ acc, H4 D = some (.lst acc) ∧ acc.length < sizeLine ∧ Nx (upd H4 D (.lst (acc ++ [y]))) else Nx H3) := by
  refine lc_range (fun k H => ∃ ys : List V, ys.length = k ∧ (∀ (j : Nat) y, ys[j]? = some y → R j y) ∧ H = upd H1 D (.lst ys)) ⟨[], rfl, fun j y h => by simp at h, rfl⟩ ?_ ?_
  · rintro k H hk ⟨ys, hl, hR, rfl⟩
    refine ⟨hw _, ?_⟩
    unfold tYes
    refine iteT ?_
    rw [Int.zero_add]
    refine he k _ hk (same_new hD) _ fun y hy => ?_
    refine ⟨ys, upd_same, to_lineL (by omega), ys ++ [y], by simp [hl], fun j z hz => ?_, by rw [upd_upd]⟩
    by_cases hj : j < ys.length
    · rw [List.getElem?_append_left hj] at hz
      exact hR j z hz
    · rw [List.getElem?_append_right (by omega)] at hz
      have : j = ys.length := by
        have := (List.getElem?_eq_some_iff.mp hz).1
        simp at this
        omega
      subst this
      simp at hz
      subst hz
      rw [hl]
      exact hy
  · rintro H ⟨ys, hl, hR, rfl⟩
    exact hd ys hl hR
/-- .. each element by a function -/
theorem lc_rangeF {n i : Nat} {te : TE} {vs : List Nat} {σ : L2.St} {H1 : Hp} {D : Addr} {Qd : Hp → Prop} (f : Nat → V) (hD : H1 D = none) (hn : n ≤ 900000) (hw : ∀ x, wipe ((wipe σ vs).set i (some x)) vs = wipe σ vs)
    (he : ∀ k H, k < n → Same H1 H → ∀ Q : VK, Q (f k) H → te ((wipe σ vs).set i (some (.int (k : Int)))) H Q)
    (hd : Qd (upd H1 D (.lst ((List.range n).map f)))) :
    ∃ W : Nat → Nat → Hp → Prop, (∃ m, W 0 m (upd H1 D (.lst []))) ∧ ∀ i' m H, W i' m H →
      ((Itr 0 n).stop i' H ∧ Qd H) ∨ ((Itr 0 n).go i' H ∧ ∃ Nx : Hp → Prop, (∀ H', Nx H' → ∃ m', m' < m ∧ W (i' + 1) m' H') ∧ ∀ x H', (Itr 0 n).yld i' H x H' → gName i x (wipe σ vs) H' fun σ2 H2 => wipe σ2 vs = wipe σ vs ∧ tYes σ2 H2 fun b H3 =>
        if b = true then te σ2 H3 fun y H4 => ∃ acc, H4 D = some (.lst acc) ∧ acc.length < sizeLine ∧ Nx (upd H4 D (.lst (acc ++ [y]))) else Nx H3) := by
  refine lc_rangeR (fun k y => y = f k) hD hn hw (fun k H hk hs Q q => he k H hk hs Q (q _ rfl)) fun ys hl hR => ?_
  have e : ys = (List.range n).map f := by
    refine List.ext_getElem? fun k => ?_
    rw [List.getElem?_map]
    by_cases hk : k < n
    · rw [List.getElem?_range hk, List.getElem?_eq_getElem (by omega)]
      exact congrArg some (hR k _ (List.getElem?_eq_getElem (by omega)))
    · rw [List.getElem?_eq_none (by omega), List.getElem?_eq_none (by simpa using hk)]
      rfl
  rw [e]
  exact hd
/-- over a list -/
theorem lc_listR {a : Addr} {xs : List V} {i : Nat} {te : TE} {vs : List Nat} {σ : L2.St} {H1 : Hp} {D : Addr} {Qd : Hp → Prop} (R : V → V → Prop) (hD : H1 D = none) (hS : SqL K H1 a xs) (hn : xs.length ≤ 900000) (hw : ∀ x, wipe ((wipe σ vs).set i (some x)) vs = wipe σ vs)
    (he : ∀ (k : Nat) x H, xs[k]? = some x → Same H1 H → ∀ Q : VK, (∀ y, R x y → Q y H) → te ((wipe σ vs).set i (some x)) H Q)
    (hd : ∀ ys : List V, Paired R xs ys → Qd (upd H1 D (.lst ys))) :
    ∃ W : Nat → Nat → Hp → Prop, (∃ m, W 0 m (upd H1 D (.lst []))) ∧ ∀ i' m H, W i' m H →
      ((Itl K a).stop i' H ∧ Qd H) ∨ ((Itl K a).go i' H ∧ ∃ Nx : Hp → Prop, (∀ H', Nx H' → ∃ m', m' < m ∧ W (i' + 1) m' H') ∧ ∀ x H', (Itl K a).yld i' H x H' → gName i x (wipe σ vs) H' fun σ2 H2 => wipe σ2 vs = wipe σ vs ∧ tYes σ2 H2 fun b H3 =>
        if b = true then te σ2 H3 fun y H4 => ∃ acc, H4 D = some (.lst acc) ∧ acc.length < sizeLine ∧ Nx (upd H4 D (.lst (acc ++ [y]))) else Nx H3) := by
  have snoc : ∀ {as bs : List V} {x y : V}, Paired R as bs → R x y → Paired R (as ++ [x]) (bs ++ [y]) := by
    intro as bs x y h r
    induction h with
    | nil => exact .cons r .nil
    | cons r1 _ ih => exact .cons r1 ih
  refine lc_list (K := K) (a := a) (xs := xs) (fun k H => ∃ ys : List V, Paired R (xs.take k) ys ∧ H = upd H1 D (.lst ys)) ⟨[], .nil, rfl⟩ (fun k H _ hh => ?_) ?_ ?_
  · obtain ⟨ys, _, rfl⟩ := hh
    exact (same_new hD).seq hS
  · rintro k x H hx ⟨ys, hR, rfl⟩
    refine ⟨hw _, ?_⟩
    unfold tYes
    refine iteT ?_
    refine he k x _ hx (same_new hD) _ fun y hy => ?_
    have hl : ys.length ≤ xs.length := by
      have := Paired.length hR
      rw [List.length_take] at this
      omega
    refine ⟨ys, upd_same, to_lineL (by omega), ys ++ [y], ?_, by rw [upd_upd]⟩
    rw [List.take_add_one, hx]
    exact snoc hR hy
  · rintro H ⟨ys, hR, rfl⟩
    rw [List.take_length] at hR
    exact hd ys hR
theorem lc_listF {a : Addr} {xs : List V} {i : Nat} {te : TE} {vs : List Nat} {σ : L2.St} {H1 : Hp} {D : Addr} {Qd : Hp → Prop} (f : V → V) (hD : H1 D = none) (hS : SqL K H1 a xs) (hn : xs.length ≤ 900000) (hw : ∀ x, wipe ((wipe σ vs).set i (some x)) vs = wipe σ vs)
    (he : ∀ (k : Nat) x H, xs[k]? = some x → Same H1 H → ∀ Q : VK, Q (f x) H → te ((wipe σ vs).set i (some x)) H Q)
    (hd : Qd (upd H1 D (.lst (xs.map f)))) :
    ∃ W : Nat → Nat → Hp → Prop, (∃ m, W 0 m (upd H1 D (.lst []))) ∧ ∀ i' m H, W i' m H →
      ((Itl K a).stop i' H ∧ Qd H) ∨ ((Itl K a).go i' H ∧ ∃ Nx : Hp → Prop, (∀ H', Nx H' → ∃ m', m' < m ∧ W (i' + 1) m' H') ∧ ∀ x H', (Itl K a).yld i' H x H' → gName i x (wipe σ vs) H' fun σ2 H2 => wipe σ2 vs = wipe σ vs ∧ tYes σ2 H2 fun b H3 =>
        if b = true then te σ2 H3 fun y H4 => ∃ acc, H4 D = some (.lst acc) ∧ acc.length < sizeLine ∧ Nx (upd H4 D (.lst (acc ++ [y]))) else Nx H3) := by
  refine lc_listR (fun x y => y = f x) hD hS hn hw (fun k x H hx hs Q q => he k x H hx hs Q (q _ rfl)) fun ys hR => ?_
  have e : ∀ {as bs : List V}, Paired (fun x y => y = f x) as bs → bs = as.map f := by
    intro as bs h
    induction h with
    | nil => rfl
    | cons r1 _ ih => rw [r1, ih]; rfl
  rw [e hR]
  exact hd
end
theorem iteNT {A B : Prop} (h : B) : if (!true) = true then A else B := h
theorem iteNF {A B : Prop} (h : A) : if (!false) = true then A else B := h
theorem iteNR {α : Type} {a : α} {A B : Prop} {d : Decidable (a = a)} (h : B) : if (!(@decide (a = a) d)) = true then A else B := by
  rw [decide_eq_true rfl]
  exact h
theorem iteER {α : Type} {a : α} {A B : Prop} {d : Decidable (a = a)} (h : A) : if (@decide (a = a) d) = true then A else B := by
  rw [decide_eq_true rfl]
  exact h
theorem paired_strs {R : V → V → Prop} {P : List Nat → Prop} (hR : ∀ x y, R x y → ∃ l : List Nat, y = vS l ∧ P l) : ∀ {xs ys : List V}, Paired R xs ys → ∃ ps : List (List Nat), ys = ps.map vS ∧ ps.length = xs.length ∧ ∀ p ∈ ps, P p := by
  intro xs ys h
  induction h with
  | nil => exact ⟨[], rfl, rfl, by simp⟩
  | cons r _ ih =>
    obtain ⟨ps, rfl, hl, hp⟩ := ih
    obtain ⟨l, rfl, hP⟩ := hR _ _ r
    refine ⟨l :: ps, rfl, by simp [hl], fun p hp' => ?_⟩
    rcases List.mem_cons.mp hp' with rfl | h
    · exact hP
    · exact hp p h
theorem sumL_le {n : Nat} : ∀ {ps : List (List Nat)}, (∀ p ∈ ps, p.length ≤ n) → sumL ps ≤ n * ps.length
  | [], _ => by simp [sumL]
  | p :: r, h => by
    have ih := sumL_le (ps := r) fun q hq => h q (List.mem_cons_of_mem _ hq)
    have h1 := h p List.mem_cons_self
    unfold sumL at ih ⊢
    rw [List.map_cons, List.sum_cons, List.length_cons, Nat.mul_add]
    omega
theorem flatten_len (ps : List (List Nat)) : ps.flatten.length = sumL ps := by
  rw [List.length_flatten]
  rfl
/-! what is known of the classes of exceptions -/
structure FxB (K : PySem.W.Frag) (C : Ad) : Prop where
  eB : ExcC K C.B
  m_B_P : PySem.W.exmOne K (.ref C.B) (.ref C.P) = some true
  m_B_B : PySem.W.exmOne K (.ref C.B) (.ref C.B) = some true
  k_B_B : PySem.W.kitOne K (.ref C.B) (.ref C.B) = some true
  k_B_V : PySem.W.kitOne K (.ref C.B) (.type "ValueError") = some true
section
variable {K : PySem.W.Frag} {H : Hp} {Q : VK}
theorem i_try {tb : WX → TS} {wf : Ends → WX} {D : Ends} {σ : L2.St} (h : tb (wf D) D σ H) : tTry tb wf D σ H := h
theorem i_isEO {a D c : Addr} {b : Bool} (hC : ExcC K D) (hk : PySem.W.kitOne K (.ref D) (.ref c) = some b) (q : Q (.bl b) H) : qIsE K a (.ref D) none [.ref a, .ref c] H Q := ⟨D, .ref c, .ref c, b, rfl, rfl, hC, rfl, fun u r => r, hk, q⟩
theorem i_isET {a D : Addr} {T : String} {b : Bool} (hC : ExcC K D) (hk : PySem.W.kitOne K (.ref D) (.type T) = some b) (q : Q (.bl b) H) : qIsE K a (.ref D) none [.ref a, .ty T] H Q := ⟨D, .ty T, .type T, b, rfl, rfl, hC, rfl, fun u r => r, hk, q⟩
theorem i_wAs {c cls : Value} {i : Nat} {ts : Addr → Value → Option Addr → TS} {Wout : WX} {D : Ends} {σ : L2.St} (hm : PySem.W.exmOne K cls c = some true)
    (h : ∀ a, H a = none → ts a cls none { nx := fun σ' H' => D.nx (σ'.set i none) H', rt := D.rt, bk := fun σ' H' => D.bk (σ'.set i none) H', ct := fun σ' H' => D.ct (σ'.set i none) H' } (σ.set i (some (.ref a))) H) : wAs K c i ts Wout D cls none σ H := ⟨true, hm, fun _ => h, fun z => nomatch z⟩
theorem i_wOnly {c cls : Value} {ts : Addr → Value → Option Addr → TS} {Wout : WX} {D : Ends} {σ : L2.St} (hm : PySem.W.exmOne K cls c = some true)
    (h : ∀ a, H a = none → ts a cls none D σ H) : wOnly K c ts Wout D cls none σ H := ⟨true, hm, fun _ => h, fun z => nomatch z⟩
end
end Pw

/-! Comparing lists and tuples of texts; kinds of values. -/
namespace Pw
open PySem PySem.Spec PyProof.Rows L2
/-- signs that a text may hold -/
def Cps (l : List Nat) : Prop := ∀ c ∈ l, c < 1114112
theorem cps_named {l : List Nat} (h : Named l) : Cps l := fun c hc => by
  have : ∀ c ∈ signs, c < 1114112 := by decide
  exact this c (h c hc)
def dT (l : List Nat) : PyData := .str (S l)
theorem dT_lay {l : List Nat} (h : Cps l) : (dT l).canLay0 = true := by
  show PyData.strOk (S l) = true
  show (S l).cps.all (fun c => decide (c < 0x110000)) = true
  rw [Array.all_eq_true']
  intro c hc
  exact decide_eq_true (h c (Array.mem_toList_iff.mpr hc))
def allIn (P : List Nat → Prop) (xs : List (List Nat)) : Prop := ∀ l ∈ xs, P l
theorem lay_all : ∀ {xs : List (List Nat)}, (∀ l ∈ xs, Cps l) → PyData.canLayAll0 (xs.map dT) = true
  | [], _ => rfl
  | l :: r, h => by
    show (PyData.canLay0 (dT l) && PyData.canLayAll0 (r.map dT)) = true
    rw [dT_lay (h l List.mem_cons_self), lay_all fun m hm => h m (List.mem_cons_of_mem _ hm)]
    rfl
theorem dep_all : ∀ (xs : List (List Nat)), PyData.depthAll (xs.map dT) = 0
  | [] => rfl
  | l :: r => by
    show max (PyData.depth (dT l)) (PyData.depthAll (r.map dT)) = 0
    rw [dep_all r]
    rfl
theorem eqv_T (a b : List Nat) : PyData.eqv (dT a) (dT b) = decide (a = b) := by
  show (S a == S b) = _
  by_cases h : a = b
  · rw [h, decide_eq_true rfl]
    exact beq_self_eq_true _
  · rw [decide_eq_false h]
    exact beq_eq_false_iff_ne.mpr fun e => h (S_inj e)
theorem eqv_all : ∀ (xs ys : List (List Nat)), PyData.eqvAll (xs.map dT) (ys.map dT) = decide (xs = ys)
  | [], [] => rfl
  | [], _ :: _ => rfl
  | _ :: _, [] => rfl
  | a :: xs, b :: ys => by
    show (PyData.eqv (dT a) (dT b) && PyData.eqvAll (xs.map dT) (ys.map dT)) = _
    rw [eqv_T, eqv_all xs ys]
    by_cases h : a = b
    · by_cases h2 : xs = ys <;> simp [h, h2]
    · simp [h]
def dL (xs : List (List Nat)) : PyData := .list (xs.map dT)
def dU (xs : List (List Nat)) : PyData := .tuple (xs.map dT)
theorem shaped_L {xs : List (List Nat)} (h : ∀ l ∈ xs, Cps l) : SeqAt.shaped (dL xs) = true := by
  have e1 : PyData.canLay0 (dL xs) = true := lay_all h
  have e2 : PyData.depth (dL xs) = 1 := by
    show PyData.depthAll (xs.map dT) + 1 = 1
    rw [dep_all]
  unfold SeqAt.shaped
  rw [e1, e2]
  rfl
theorem shaped_U {xs : List (List Nat)} (h : ∀ l ∈ xs, Cps l) : SeqAt.shaped (dU xs) = true := by
  have e1 : PyData.canLay0 (dU xs) = true := lay_all h
  have e2 : PyData.depth (dU xs) = 1 := by
    show PyData.depthAll (xs.map dT) + 1 = 1
    rw [dep_all]
  unfold SeqAt.shaped
  rw [e1, e2]
  rfl
def dLL (xs : List (List (List Nat))) : PyData := .list (xs.map dL)
theorem lay_LL : ∀ {xs : List (List (List Nat))}, (∀ ls ∈ xs, ∀ l ∈ ls, Cps l) → PyData.canLayAll0 (xs.map dL) = true
  | [], _ => rfl
  | l :: r, h => by
    show (PyData.canLay0 (dL l) && PyData.canLayAll0 (r.map dL)) = true
    have e1 : PyData.canLay0 (dL l) = true := lay_all (h l List.mem_cons_self)
    rw [e1, lay_LL fun m hm => h m (List.mem_cons_of_mem _ hm)]
    rfl
theorem dep_LL : ∀ (xs : List (List (List Nat))), PyData.depthAll (xs.map dL) ≤ 1
  | [] => Nat.zero_le _
  | l :: r => by
    show max (PyData.depth (dL l)) (PyData.depthAll (r.map dL)) ≤ 1
    have e2 : PyData.depth (dL l) = 1 := by
      show PyData.depthAll (l.map dT) + 1 = 1
      rw [dep_all]
    have := dep_LL r
    omega
theorem shaped_LL {xs : List (List (List Nat))} (h : ∀ ls ∈ xs, ∀ l ∈ ls, Cps l) : SeqAt.shaped (dLL xs) = true := by
  have e1 : PyData.canLay0 (dLL xs) = true := lay_LL h
  have e2 : PyData.depth (dLL xs) ≤ 64 := by
    show PyData.depthAll (xs.map dL) + 1 ≤ 64
    have := dep_LL xs
    omega
  unfold SeqAt.shaped
  rw [e1, decide_eq_true e2]
  rfl
theorem eqv_LL : ∀ (xs ys : List (List (List Nat))), PyData.eqvAll (xs.map dL) (ys.map dL) = decide (xs = ys)
  | [], [] => rfl
  | [], _ :: _ => rfl
  | _ :: _, [] => rfl
  | a :: xs, b :: ys => by
    show (PyData.eqvAll (a.map dT) (b.map dT) && PyData.eqvAll (xs.map dL) (ys.map dL)) = _
    rw [eqv_all, eqv_LL xs ys]
    by_cases h : a = b
    · by_cases h2 : xs = ys <;> simp [h, h2]
    · simp [h]
section
variable {K : PySem.W.Frag} {H : Hp} {Q : VK}
theorem dp_all : ∀ (xs : List (List Nat)), DpAll K H (xs.map vS) (xs.map dT)
  | [] => .nil
  | l :: r => .cons (.str _) (dp_all r)
theorem i_eqLL {a b : Addr} {xs ys : List (List Nat)} (h1 : SqL K H a (xs.map vS)) (h2 : SqL K H b (ys.map vS)) (c1 : ∀ l ∈ xs, Cps l) (c2 : ∀ l ∈ ys, Cps l) (q : Q (.bl (decide (xs = ys))) H) : rEqD K (.ref a) (.ref b) H Q := by
  refine ⟨dL xs, dL ys, .lst h1 (dp_all _), .lst h2 (dp_all _), shaped_L c1, shaped_L c2, ?_⟩
  show Q (.bl (PyData.eqvAll (xs.map dT) (ys.map dT))) H
  rw [eqv_all]
  exact q
theorem i_neLL {a b : Addr} {xs ys : List (List Nat)} (h1 : SqL K H a (xs.map vS)) (h2 : SqL K H b (ys.map vS)) (c1 : ∀ l ∈ xs, Cps l) (c2 : ∀ l ∈ ys, Cps l) (q : Q (.bl (!decide (xs = ys))) H) : rNeD K (.ref a) (.ref b) H Q := by
  refine ⟨dL xs, dL ys, .lst h1 (dp_all _), .lst h2 (dp_all _), shaped_L c1, shaped_L c2, ?_⟩
  show Q (.bl (!PyData.eqvAll (xs.map dT) (ys.map dT))) H
  rw [eqv_all]
  exact q
theorem i_neUU {a b : Addr} {xs ys : List (List Nat)} (h1 : SqT K H a (xs.map vS)) (h2 : SqT K H b (ys.map vS)) (c1 : ∀ l ∈ xs, Cps l) (c2 : ∀ l ∈ ys, Cps l) (q : Q (.bl (!decide (xs = ys))) H) : rNeD K (.ref a) (.ref b) H Q := by
  refine ⟨dU xs, dU ys, .tup h1 (dp_all _), .tup h2 (dp_all _), shaped_U c1, shaped_U c2, ?_⟩
  show Q (.bl (!PyData.eqvAll (xs.map dT) (ys.map dT))) H
  rw [eqv_all]
  exact q
/-- a list of lists of texts -/
def LL (K : PySem.W.Frag) (H : Hp) (vs : List V) (xs : List (List (List Nat))) : Prop := Paired (fun v ls => ∃ a, v = .ref a ∧ SqL K H a (ls.map vS)) vs xs
theorem dp_LL {vs : List V} {xs : List (List (List Nat))} (h : LL K H vs xs) : DpAll K H vs (xs.map dL) := by
  induction h with
  | nil => exact .nil
  | cons r _ ih =>
    obtain ⟨a, rfl, h⟩ := r
    exact .cons (.lst h (dp_all _)) ih
theorem i_neLLL {a b : Addr} {us vs : List V} {xs ys : List (List (List Nat))} (h1 : SqL K H a us) (h2 : SqL K H b vs) (l1 : LL K H us xs) (l2 : LL K H vs ys) (c1 : ∀ ls ∈ xs, ∀ l ∈ ls, Cps l) (c2 : ∀ ls ∈ ys, ∀ l ∈ ls, Cps l)
    (q : Q (.bl (!decide (xs = ys))) H) : rNeD K (.ref a) (.ref b) H Q := by
  refine ⟨dLL xs, dLL ys, .lst h1 (dp_LL l1), .lst h2 (dp_LL l2), shaped_LL c1, shaped_LL c2, ?_⟩
  show Q (.bl (!PyData.eqvAll (xs.map dL) (ys.map dL))) H
  rw [eqv_LL]
  exact q
/-! kinds -/
theorem i_isLst {a : Addr} {xs : List V} (h : H a = some (.lst xs)) (q : Q (.bl true) H) : rIsi K [.ref a, .ty "list"] H Q := ⟨_, _, .type "list", .type "list", true, rfl, .ty _, .base (.lst h), kit_ty (by decide +kernel), q⟩
theorem i_isTup {a : Addr} {xs : List V} (h : SqT K H a xs) (q : Q (.bl true) H) : rIsi K [.ref a, .ty "tuple"] H Q := by
  have t : TyX K H (.ref a) (.type "tuple") := by
    rcases h with (h | ⟨o, h⟩) | ⟨o, its, n, e, c, _⟩
    · exact .base (.tup h)
    · exact .fTuple h
    · exact .kTuple e c
  exact ⟨_, _, .type "tuple", .type "tuple", true, rfl, .ty _, t, kit_ty (by decide +kernel), q⟩
theorem i_isBl {b : Bool} (q : Q (.bl true) H) : rIsi K [.bl b, .ty "bool"] H Q := ⟨_, _, .type "bool", .type "bool", true, rfl, .ty _, .base (.bl b), kit_ty (by decide +kernel), q⟩
theorem i_all {a : Addr} {bs : List Bool} (h : SqL K H a (bs.map V.bl)) (q : Q (.bl (bs.all id)) H) : rAll K [.ref a] H Q := ⟨a, bs, rfl, h, q⟩
theorem i_any {a : Addr} {bs : List Bool} (h : SqL K H a (bs.map V.bl)) (q : Q (.bl (bs.any id)) H) : rAny K [.ref a] H Q := ⟨a, bs, rfl, h, q⟩
theorem i_itup {tl : TE} {σ : L2.St} {R : It → Hp → Prop} (h : tl σ H fun x H1 => ∃ a, x = .ref a ∧ (∃ xs, SqT K H1 a xs) ∧ R (Itt K a) H1) : iTup K tl σ H R := h
/-- a comprehension over a tuple, each element by a function -/
theorem lc_tupF {a : Addr} {xs : List V} {i : Nat} {te : TE} {vs : List Nat} {σ : L2.St} {H1 : Hp} {D : Addr} {Qd : Hp → Prop} (f : V → V) (hD : H1 D = none) (hS : SqT K H1 a xs) (hn : xs.length ≤ 900000) (hw : ∀ x, wipe ((wipe σ vs).set i (some x)) vs = wipe σ vs)
    (he : ∀ (k : Nat) x H, xs[k]? = some x → Same H1 H → ∀ Q : VK, Q (f x) H → te ((wipe σ vs).set i (some x)) H Q)
    (hd : Qd (upd H1 D (.lst (xs.map f)))) :
    ∃ W : Nat → Nat → Hp → Prop, (∃ m, W 0 m (upd H1 D (.lst []))) ∧ ∀ i' m H, W i' m H →
      ((Itt K a).stop i' H ∧ Qd H) ∨ ((Itt K a).go i' H ∧ ∃ Nx : Hp → Prop, (∀ H', Nx H' → ∃ m', m' < m ∧ W (i' + 1) m' H') ∧ ∀ x H', (Itt K a).yld i' H x H' → gName i x (wipe σ vs) H' fun σ2 H2 => wipe σ2 vs = wipe σ vs ∧ tYes σ2 H2 fun b H3 =>
        if b = true then te σ2 H3 fun y H4 => ∃ acc, H4 D = some (.lst acc) ∧ acc.length < sizeLine ∧ Nx (upd H4 D (.lst (acc ++ [y]))) else Nx H3) := by
  refine lc_tup (K := K) (a := a) (xs := xs) (fun k H => H = upd H1 D (.lst ((xs.take k).map f))) rfl (fun k H _ hh => ?_) ?_ ?_
  · subst hh
    exact Same.sqt (same_new hD) hS
  · rintro k x H hx rfl
    refine ⟨hw _, ?_⟩
    unfold tYes
    refine iteT ?_
    refine he k x _ hx (same_new hD) _ ?_
    refine ⟨_, upd_same, to_lineL ?_, ?_⟩
    · rw [List.length_map, List.length_take]
      omega
    · rw [upd_upd, List.take_add_one, hx]
      simp
  · rintro H rfl
    rw [List.take_length]
    exact hd
end
end Pw

/-! Plain facts: parts written in any way, lines of parts. -/
namespace Pw
open PySem PySem.Spec PyProof.Rows L2
theorem i_mk {xs : List V} {A : Prop} (h : xs.length ≤ 1000000) (q : A) : xs.length ≤ sizeLine ∧ A := ⟨to_line h, q⟩
theorem ints_of {ys : List V} : (∀ (k : Nat) (y : V), ys[k]? = some y → ∃ c, y = .int c) → ∃ cs : List Int, ys = cs.map V.int := by
  intro h
  have h' : ∀ y ∈ ys, ∃ c, y = .int c := fun y hy => by
    obtain ⟨k, hk⟩ := List.mem_iff_getElem?.mp hy
    exact h k y hk
  clear h
  induction ys with
  | nil => exact ⟨[], rfl⟩
  | cons y r ih =>
    obtain ⟨c, rfl⟩ := h' y List.mem_cons_self
    obtain ⟨cs, rfl⟩ := ih fun z hz => h' z (List.mem_cons_of_mem _ hz)
    exact ⟨c :: cs, rfl⟩
/-- what is written of the name's first i signs -/
structure PB (n f : List Nat) (i : Nat) : Prop where
  tells : ∀ r, nameOf (f ++ r) = (nameOf r).map (n.take i ++ ·)
  free : 47 ∉ f
  len : f.length ≤ 3 * i
  hd : f.head? ≠ some 64
  ne : 0 < i → f ≠ []
theorem PB.zero (n : List Nat) : PB n [] 0 := ⟨fun r => by simp, by simp, by simp, by simp, fun h => absurd h (by simp)⟩
theorem take_snoc {α : Type} {n : List α} {i : Nat} {c : α} (h : n[i]? = some c) : n.take (i + 1) = n.take i ++ [c] := by
  rw [List.take_add_one, h]
  rfl
theorem PB.put3 {n f : List Nat} {i c : Nat} (h : PB n f i) (hc : n[i]? = some c) (hs : Sign c) : PB n (f ++ esc c) (i + 1) where
  tells := fun r => by
    rw [List.append_assoc, h.tells, nameOf_escC hs, Option.map_map, take_snoc hc]
    congr 1
    funext m
    simp
  free := fun hm => by
    rcases List.mem_append.mp hm with q | q
    · exact h.free q
    · exact esc_free hs q
  len := by
    have := h.len
    simp [Pw.esc]
    omega
  hd := by
    have := h.hd
    cases f with
    | nil => simp [Pw.esc]
    | cons a t => simpa using this
  ne := fun _ e => by
    have := congrArg List.length e
    simp [Pw.esc] at this
theorem PB.put {n f : List Nat} {i c : Nat} (h : PB n f i) (hc : n[i]? = some c) (h1 : c ≠ 47) (h2 : c ≠ 126) (h3 : i = 0 → c ≠ 64) : PB n (f ++ [c]) (i + 1) where
  tells := fun r => by
    rw [List.append_assoc, h.tells]
    show (nameOf (c :: r)).map _ = _
    rw [nameOf_plain h2, Option.map_map, take_snoc hc]
    congr 1
    funext m
    simp
  free := fun hm => by
    rcases List.mem_append.mp hm with q | q
    · exact h.free q
    · exact h1 (List.mem_singleton.mp q).symm
  len := by
    have := h.len
    simp
    omega
  hd := by
    have := h.hd
    cases f with
    | nil =>
      have hi : i = 0 := by
        by_cases hz : 0 < i
        · exact absurd rfl (h.ne hz)
        · omega
      simp
      exact h3 hi
    | cons a t => simpa using this
  ne := fun _ e => by
    have := congrArg List.length e
    simp at this
theorem PB.done {n f : List Nat} (h : PB n f n.length) (h1 : f ≠ [46]) (h2 : f ≠ [46, 46]) : Part n f where
  tells := by
    have := h.tells []
    rw [List.append_nil, List.take_length] at this
    rw [this]
    simp [nameOf]
  free := h.free
  plain := fun hn => ⟨h.ne (List.length_pos_iff.mpr hn), h1, h2, h.hd⟩
  len := by
    have := h.len
    omega
theorem PB.dots {n f : List Nat} (h : PB n f n.length) (h1 : f = [46] ∨ f = [46, 46]) : Part n (Pw.esc 46 ++ f.drop 1) := by
  have t := h.tells []
  rw [List.append_nil, List.take_length] at t
  have t' : nameOf f = some n := by
    rw [t]
    simp [nameOf]
  rcases h1 with rfl | rfl
  · have : n = [46] := by
      have e : nameOf [46] = some [46] := by decide
      rw [e] at t'
      exact (Option.some.inj t').symm
    subst this
    exact ⟨by decide, by decide, fun _ => ⟨by decide, by decide, by decide, by decide⟩, by decide⟩
  · have : n = [46, 46] := by
      have e : nameOf [46, 46] = some [46, 46] := by decide
      rw [e] at t'
      exact (Option.some.inj t').symm
    subst this
    exact ⟨by decide, by decide, fun _ => ⟨by decide, by decide, by decide, by decide⟩, by decide⟩
theorem nameOf_raw : ∀ {n : List Nat}, 126 ∉ n → nameOf n = some n
  | [], _ => by simp [nameOf]
  | c :: r, h => by
    have hc : c ≠ 126 := fun e => h (by rw [e]; exact List.mem_cons_self)
    rw [nameOf_plain hc, nameOf_raw fun m => h (List.mem_cons_of_mem _ m)]
    rfl
theorem joinS_len : ∀ ps : List (List Nat), (joinS ps).length ≤ sumL ps + ps.length
  | [] => Nat.zero_le _
  | [x] => by
    show x.length ≤ (x.length + 0) + 1
    omega
  | x :: y :: r => by
    have ih := joinS_len (y :: r)
    have e : sumL (x :: y :: r) = x.length + sumL (y :: r) := rfl
    rw [e]
    simp only [joinS, List.length_append, List.length_cons] at ih ⊢
    omega
theorem stepsP_snoc {ps : List (List Nat)} {p : List Nat} {s t : List Step} (h : stepsP ps = some s) (h2 : stepOf p = some t) : stepsP (ps ++ [p]) = some (s ++ t) := by
  rw [stepsP_append, h]
  show (stepsP [p]).map (s ++ ·) = _
  rw [stepsP, h2]
  simp [stepsP]
theorem steps_join {ps : List (List Nat)} {ss : List Step} (h : stepsP ps = some ss) (hf : ∀ p ∈ ps, 47 ∉ p) : stepsOf (joinS ps) = some (rootOf (joinS ps) ++ ss) := by
  by_cases e : ps = []
  · subst e
    rw [stepsP] at h
    cases h
    decide
  · rw [stepsOf, split_join e hf, h]
    rfl
theorem stepOf_dots : stepOf [46, 46] = some [.up] := by decide
theorem stepOf_none : stepOf [] = some [] := by decide
theorem stepOf_dot : stepOf [46] = some [] := by decide
theorem take_one (l : List Nat) : (decide (l.take 1 = [47])) = (decide (l.head? = some 47)) := by
  cases l with
  | nil => rfl
  | cons a r => simp
theorem rootOf_yes {l : List Nat} (h : l.take 1 = [47]) : rootOf l = [.root] := by
  cases l with
  | nil => simp at h
  | cons a r =>
    have : a = 47 := by simpa using h
    simp [rootOf, this]
theorem rootOf_no {l : List Nat} (h : ¬ l.take 1 = [47]) : rootOf l = [] := by
  cases l with
  | nil => rfl
  | cons a r =>
    have : a ≠ 47 := by simpa using h
    simp [rootOf, this]
theorem cutN_t1 {α : Type} (l : List α) : cutN l none (some 1) = l.take 1 := cutN_to l 1
theorem cutN_1 {α : Type} (l : List α) : cutN l (some 1) none = l.drop 1 := cutN_from l 1
theorem drop1_len {α : Type} (l : List α) : (l.drop 1).length ≤ l.length := by
  rw [List.length_drop]
  omega
/-! the two lists that grow -/
section
variable {K : PySem.W.Frag}
structure PI (K : PySem.W.Frag) (H H' : Hp) (P S : Addr) (names ps : List (List Nat)) (us : List V) (ss : List Step) (i : Nat) : Prop where
  same : Same H H'
  np : H P = none
  ns : H S = none
  ne : P ≠ S
  hp : H' P = some (.lst (ps.map vS))
  hs : H' S = some (.lst us)
  at_ : Paired (StepAt K H') us ss
  st : stepsP ps = some ss
  lp : ps.length = i
  ls : ss.length ≤ i
  fr : ∀ p ∈ ps, 47 ∉ p ∧ p.length ≤ 132
  ok : ∀ s ∈ ss, StepOk names s
variable {H H' : Hp} {P S : Addr} {names ps : List (List Nat)} {us : List V} {ss : List Step} {i : Nat}
theorem PI.other {q : Addr} {o : HO} (I : PI K H H' P S names ps us ss i) (h : H' q = none) : PI K H (upd H' q o) P S names ps us ss i :=
  { I with same := Same.new I.same h, hp := lk I.hp h, hs := lk I.hs h, at_ := paired_mono (fun _ _ r => r.same (same_new h)) I.at_ }
theorem map_snoc (ps : List (List Nat)) (p : List Nat) : ps.map vS ++ [vS p] = (ps ++ [p]).map vS := by simp
theorem fr_snoc {ps : List (List Nat)} {p : List Nat} (h : ∀ p ∈ ps, 47 ∉ p ∧ p.length ≤ 132) (h1 : 47 ∉ p) (h2 : p.length ≤ 132) : ∀ q ∈ ps ++ [p], 47 ∉ q ∧ q.length ≤ 132 := fun q hq => by
  rcases List.mem_append.mp hq with z | z
  · exact h q z
  · rw [List.mem_singleton.mp z]
    exact ⟨h1, h2⟩
theorem PI.part {p : List Nat} (I : PI K H H' P S names ps us ss i) (h : stepOf p = some []) (h1 : 47 ∉ p) (h2 : p.length ≤ 132) : PI K H (upd H' P (.lst (ps.map vS ++ [vS p]))) P S names (ps ++ [p]) us ss (i + 1) where
  same := Same.mut I.same I.np
  np := I.np
  ns := I.ns
  ne := I.ne
  hp := by rw [upd_same, map_snoc]
  hs := by
    rw [upd_ne (fun e => I.ne e.symm)]
    exact I.hs
  at_ := paired_mono (fun _ _ r => r.upd I.hp) I.at_
  st := by
    have := stepsP_snoc I.st h
    rwa [List.append_nil] at this
  lp := by
    rw [List.length_append, I.lp]
    rfl
  ls := Nat.le_succ_of_le I.ls
  fr := fr_snoc I.fr h1 h2
  ok := I.ok
theorem PI.step {p : List Nat} {s : Step} {t : Addr} (I : PI K H H' P S names ps us ss i) (h : stepOf p = some [s]) (h1 : 47 ∉ p) (h2 : p.length ≤ 132) (hs : StepOk names s) (ht : upd H' P (.lst (ps.map vS ++ [vS p])) t = none) :
    PI K H (upd (upd (upd H' P (.lst (ps.map vS ++ [vS p]))) t (.tup (stepV s))) S (.lst (us ++ [.ref t]))) P S names (ps ++ [p]) (us ++ [.ref t]) (ss ++ [s]) (i + 1) := by
  have e1 : upd H' P (.lst (ps.map vS ++ [vS p])) S = some (.lst us) := by
    rw [upd_ne (fun e => I.ne e.symm)]
    exact I.hs
  have e2 : upd (upd H' P (.lst (ps.map vS ++ [vS p]))) t (.tup (stepV s)) S = some (.lst us) := lk e1 ht
  have s1 : Same H (upd (upd H' P (.lst (ps.map vS ++ [vS p]))) t (.tup (stepV s))) := Same.new (Same.mut I.same I.np) ht
  exact {
    same := Same.mut s1 I.ns
    np := I.np
    ns := I.ns
    ne := I.ne
    hp := by
      rw [upd_ne I.ne]
      refine lk ?_ ht
      rw [upd_same, map_snoc]
    hs := upd_same
    at_ := by
      refine paired_app (paired_mono (fun _ _ r => ((r.upd I.hp).same (same_new ht)).upd e2) I.at_) (.cons ?_ .nil)
      exact ⟨t, rfl, sqt_upd e2 (SqT.of upd_same)⟩
    st := stepsP_snoc I.st h
    lp := by
      rw [List.length_append, I.lp]
      rfl
    ls := by
      have := I.ls
      simp
      omega
    fr := fr_snoc I.fr h1 h2
    ok := fun s' hs' => by
      rcases List.mem_append.mp hs' with z | z
      · exact I.ok s' z
      · rw [List.mem_singleton.mp z]
        exact hs }
end
end Pw

/-! Dicts with texts as keys. -/
namespace Pw
open PySem PySem.Spec PyProof.Rows L2
/-! ### tables -/
section
variable {β : Type}
def look (l : List (List Nat × β)) (n : List Nat) : Option β := (l.find? fun p => decide (p.1 = n)).map Prod.snd
def keys (l : List (List Nat × β)) : List (List Nat) := l.map Prod.fst
theorem look_nil (n : List Nat) : look ([] : List (List Nat × β)) n = none := rfl
theorem look_pos {p : List Nat × β} {r : List (List Nat × β)} {n : List Nat} (h : p.1 = n) : look (p :: r) n = some p.2 := by simp [look, List.find?_cons, h]
theorem look_neg {p : List Nat × β} {r : List (List Nat × β)} {n : List Nat} (h : p.1 ≠ n) : look (p :: r) n = look r n := by simp [look, List.find?_cons, h]
theorem look_none {l : List (List Nat × β)} {n : List Nat} : look l n = none ↔ n ∉ keys l := by
  induction l with
  | nil => simp [look, keys]
  | cons p r ih =>
    by_cases h : p.1 = n
    · rw [look_pos h]
      simp [keys, h]
    · rw [look_neg h, ih]
      simp [keys]
      intro _ e
      exact h e.symm
theorem look_mem {l : List (List Nat × β)} {n : List Nat} {b : β} (h : look l n = some b) : (n, b) ∈ l := by
  induction l with
  | nil => cases h
  | cons p r ih =>
    by_cases e : p.1 = n
    · rw [look_pos e] at h
      cases h
      rw [← e]
      exact List.mem_cons_self
    · rw [look_neg e] at h
      exact List.mem_cons_of_mem _ (ih h)
theorem look_of_mem {l : List (List Nat × β)} {n : List Nat} {b : β} (hn : (keys l).Nodup) (h : (n, b) ∈ l) : look l n = some b := by
  induction l with
  | nil => cases h
  | cons p r ih =>
    have hn' : p.1 ∉ keys r ∧ (keys r).Nodup := List.nodup_cons.mp hn
    rcases List.mem_cons.mp h with e | h
    · rw [← e]
      exact look_pos rfl
    · have ne : p.1 ≠ n := fun e => hn'.1 (by rw [e]; exact List.mem_map.mpr ⟨(n, b), h, rfl⟩)
      rw [look_neg ne]
      exact ih hn'.2 h
theorem look_some_of_key {l : List (List Nat × β)} {n : List Nat} (h : n ∈ keys l) : ∃ b, look l n = some b := by
  cases e : look l n with
  | none => exact absurd h (look_none.mp e)
  | some b => exact ⟨b, rfl⟩
theorem look_app {l r : List (List Nat × β)} {n : List Nat} : look (l ++ r) n = (match look l n with | some b => some b | none => look r n) := by
  induction l with
  | nil => rfl
  | cons p t ih =>
    rw [List.cons_append]
    by_cases e : p.1 = n
    · rw [look_pos e, look_pos e]
    · rw [look_neg e, look_neg e, ih]
theorem keys_app (l r : List (List Nat × β)) : keys (l ++ r) = keys l ++ keys r := by simp [keys]
theorem keys_len (l : List (List Nat × β)) : (keys l).length = l.length := by simp [keys]
theorem keys_snoc_nodup {l : List (List Nat × β)} {n : List Nat} {b : β} (h : (keys l).Nodup) (hn : n ∉ keys l) : (keys (l ++ [(n, b)])).Nodup := by
  rw [keys_app]
  refine List.nodup_append.mpr ⟨h, by simp [keys], fun a ha c hc => ?_⟩
  have : c = n := by simpa [keys] using hc
  rw [this]
  intro e
  exact hn (by rw [← e]; exact ha)
end
def kS (n : List Nat) : Key := .inr (S n)
theorem kS_inj {a b : List Nat} (h : kS a = kS b) : a = b := S_inj (Sum.inr.inj h)
/-- the dict's pairs, one by one -/
def Rows {β : Type} (R : V → β → Prop) (kvs : List (Key × V)) (l : List (List Nat × β)) : Prop := Paired (fun kv row => kv.1 = kS row.1 ∧ R kv.2 row.2) kvs l
section
variable {β : Type} {R : V → β → Prop}
theorem Rows.look {kvs : List (Key × V)} {l : List (List Nat × β)} (h : Rows R kvs l) {n : List Nat} {b : β} (e : look l n = some b) : ∃ v, valV kvs (kS n) = some v ∧ R v b := by
  induction h with
  | nil => cases e
  | cons r t ih =>
    rename_i kv row kvs l
    by_cases z : row.1 = n
    · rw [look_pos z] at e
      cases e
      exact ⟨kv.2, valV_pos (by rw [r.1, z]), r.2⟩
    · rw [look_neg z] at e
      obtain ⟨v, h1, h2⟩ := ih e
      exact ⟨v, by rw [valV_neg (by rw [r.1]; exact fun q => z (kS_inj q))]; exact h1, h2⟩
theorem Rows.none {kvs : List (Key × V)} {l : List (List Nat × β)} (h : Rows R kvs l) {n : List Nat} (e : Pw.look l n = none) : valV kvs (kS n) = none := by
  induction h with
  | nil => rfl
  | cons r t ih =>
    rename_i kv row kvs l
    by_cases z : row.1 = n
    · rw [look_pos z] at e
      cases e
    · rw [look_neg z] at e
      rw [valV_neg (by rw [r.1]; exact fun q => z (kS_inj q))]
      exact ih e
theorem Rows.isSome {kvs : List (Key × V)} {l : List (List Nat × β)} (h : Rows R kvs l) (n : List Nat) : (valV kvs (kS n)).isSome = decide (n ∈ keys l) := by
  cases e : Pw.look l n with
  | none =>
    rw [h.none e, decide_eq_false (look_none.mp e)]
    rfl
  | some b =>
    obtain ⟨v, h1, _⟩ := h.look e
    have hm : n ∈ keys l := List.mem_map.mpr ⟨_, look_mem e, rfl⟩
    rw [h1, decide_eq_true hm]
    rfl
theorem Rows.put {kvs : List (Key × V)} {l : List (List Nat × β)} (h : Rows R kvs l) {n : List Nat} {v : V} {b : β} (e : n ∉ keys l) (r : R v b) : Rows R (putK kvs (kS n) v) (l ++ [(n, b)]) := by
  have ha : (kvs.any fun kv => decide (kv.1 = kS n)) = false := by
    rw [valV_any, h.none (look_none.mpr e)]
    rfl
  unfold putK
  rw [ha, if_neg Bool.false_ne_true]
  exact paired_app h (.cons ⟨rfl, r⟩ .nil)
def swap (l : List (List Nat × β)) (n : List Nat) (b : β) : List (List Nat × β) := l.map fun p => if p.1 = n then (p.1, b) else p
theorem Rows.swap {kvs : List (Key × V)} {l : List (List Nat × β)} (h : Rows R kvs l) {n : List Nat} {v : V} {b : β} (e : n ∈ keys l) (r : R v b) : Rows R (putK kvs (kS n) v) (swap l n b) := by
  have ha : (kvs.any fun kv => decide (kv.1 = kS n)) = true := by
    rw [valV_any, h.isSome, decide_eq_true e]
  unfold putK
  rw [ha, if_pos rfl]
  clear e ha
  induction h with
  | nil => exact .nil
  | cons q t ih =>
    rename_i kv row kvs l
    refine .cons ?_ ih
    dsimp only
    by_cases z : row.1 = n
    · rw [if_pos z, if_pos (by rw [q.1, z])]
      exact ⟨q.1, r⟩
    · rw [if_neg z, if_neg (by rw [q.1]; exact fun w => z (kS_inj w))]
      exact q
theorem Rows.get {kvs : List (Key × V)} {l : List (List Nat × β)} (h : Rows R kvs l) {i : Nat} {k : Key} {v : V} (e : kvs[i]? = some (k, v)) : ∃ n b, l[i]? = some (n, b) ∧ k = kS n ∧ R v b := by
  obtain ⟨⟨n, b⟩, h1, h2, h3⟩ := paired_get h e
  exact ⟨n, b, h1, h2, h3⟩
theorem Rows.keys {kvs : List (Key × V)} {l : List (List Nat × β)} (h : Rows R kvs l) : kvs.map (fun kv => kV kv.1) = (keys l).map vS := by
  induction h with
  | nil => rfl
  | cons r t ih =>
    rename_i kv row kvs l
    rw [List.map_cons, ih, r.1]
    rfl
theorem Rows.mono {R' : V → β → Prop} (hR : ∀ v b, R v b → R' v b) {kvs : List (Key × V)} {l : List (List Nat × β)} (h : Rows R kvs l) : Rows R' kvs l := paired_mono (fun _ _ r => ⟨r.1, hR _ _ r.2⟩) h
end
/-- a dict that stands at a, locked or not -/
def DictAt {β : Type} (R : Hp → V → β → Prop) (H : Hp) (a : Addr) (l : List (List Nat × β)) : Prop := ∃ kvs, Rd H a (.dK kvs) ∧ Rows (R H) kvs l
/-- .. not locked -/
def DictM {β : Type} (R : Hp → V → β → Prop) (H : Hp) (a : Addr) (l : List (List Nat × β)) : Prop := ∃ kvs, H a = some (.dK kvs) ∧ Rows (R H) kvs l
/-- R keeps where the heap only grows -/
def Grows {β : Type} (R : Hp → V → β → Prop) : Prop := ∀ H H' v b, Same H H' → R H v b → R H' v b
def txtR : Hp → V → List Nat → Prop := fun _ v l => v = vS l
theorem txtR_grows : Grows txtR := fun _ _ _ _ _ h => h
def placeR (H : Hp) (v : V) (pl : List (List Nat)) : Prop := ∃ p, v = .ref p ∧ H p = some (.lst (pl.map vS))
theorem placeR_grows : Grows placeR := fun _ _ _ _ s ⟨p, e, h⟩ => ⟨p, e, s _ _ h⟩
def stepsR (K : PySem.W.Frag) (H : Hp) (v : V) (ss : List Step) : Prop := ∃ p, v = .ref p ∧ Steps K H p ss
theorem stepsR_grows {K : PySem.W.Frag} : Grows (stepsR K) := fun _ _ _ _ s ⟨p, e, h⟩ => ⟨p, e, h.same s⟩
section
variable {K : PySem.W.Frag} {β : Type} {R : Hp → V → β → Prop} {H H' : Hp} {a : Addr} {l : List (List Nat × β)} {Q : VK}
theorem DictM.at (h : DictM R H a l) : DictAt R H a l := by
  obtain ⟨kvs, h1, h2⟩ := h
  exact ⟨kvs, .inl h1, h2⟩
theorem rd_same {u : HO} (s : Same H H') (h : Rd H a u) : Rd H' a u := by
  rcases h with h | ⟨o, h⟩
  · exact .inl (s _ _ h)
  · exact .inr ⟨o, s _ _ h⟩
theorem DictAt.same (hR : Grows R) (s : Same H H') (h : DictAt R H a l) : DictAt R H' a l := by
  obtain ⟨kvs, h1, h2⟩ := h
  exact ⟨kvs, rd_same s h1, h2.mono fun v b => hR H H' v b s⟩
theorem DictM.same (hR : Grows R) (s : Same H H') (h : DictM R H a l) : DictM R H' a l := by
  obtain ⟨kvs, h1, h2⟩ := h
  exact ⟨kvs, s _ _ h1, h2.mono fun v b => hR H H' v b s⟩
/-! reading -/
theorem i_get {n : List Nat} {b : β} {P : V → Prop} (h : DictAt R H a l) (e : look l n = some b) (q : ∀ v, R H v b → P v) : ∃ a' v, V.ref a = .ref a' ∧ DGet H a' (vS n) (some v) ∧ P v := by
  obtain ⟨kvs, h1, h2⟩ := h
  obtain ⟨v, e1, r⟩ := h2.look e
  exact ⟨a, v, rfl, .inl ⟨kvs, kS n, h1, rfl, e1.symm⟩, q v r⟩
theorem i_has {n : List Nat} {P : Option V → Prop} (h : DictAt R H a l) (q : ∀ o, o.isSome = decide (n ∈ keys l) → P o) : ∃ a' o, V.ref a = .ref a' ∧ DGet H a' (vS n) o ∧ P o := by
  obtain ⟨kvs, h1, h2⟩ := h
  exact ⟨a, _, rfl, .inl ⟨kvs, kS n, h1, rfl, rfl⟩, q _ (h2.isSome n)⟩
theorem i_put {n : List Nat} {v : V} {kvs : List (Key × V)} {N : Hp → Prop} (h : H a = some (.dK kvs)) (hl : kvs.length < 1000000) (q : N (upd H a (.dK (putK kvs (kS n) v)))) : ∃ a' H4, V.ref a = .ref a' ∧ DPut H a' (vS n) v H4 ∧ N H4 :=
  ⟨a, _, rfl, .inl ⟨kvs, kS n, h, rfl, to_lineL hl, rfl⟩, q⟩
theorem DictM.len (h : DictM R H a l) : ∃ kvs, H a = some (.dK kvs) ∧ kvs.length = l.length ∧ Rows (R H) kvs l := by
  obtain ⟨kvs, h1, h2⟩ := h
  exact ⟨kvs, h1, paired_len h2, h2⟩
theorem i_dget {td ty : TE} {σ : L2.St} (h : td σ H fun x H1 => ty σ H1 fun y H2 => ∃ a v, x = .ref a ∧ DGet H2 a y (some v) ∧ Q v H2) : tDGet td ty σ H Q := h
theorem i_din {td ty : TE} {σ : L2.St} (h : ty σ H fun y H1 => td σ H1 fun x H2 => ∃ a o, x = .ref a ∧ DGet H2 a y o ∧ Q (.bl o.isSome) H2) : tDIn ty td σ H Q := h
theorem i_dnin {td ty : TE} {σ : L2.St} (h : ty σ H fun y H1 => td σ H1 fun x H2 => ∃ a o, x = .ref a ∧ DGet H2 a y o ∧ Q (.bl (!o.isSome)) H2) : tDNotIn ty td σ H Q := h
theorem i_dput {td ty tv : TE} {D : Ends} {σ : L2.St} (h : tv σ H fun v H1 => td σ H1 fun x H2 => ty σ H2 fun y H3 => ∃ a H4, x = .ref a ∧ DPut H3 a y v H4 ∧ D.nx σ H4) : sDPut td ty tv D σ H := h
theorem i_dnew {σ : L2.St} (h : ∀ p, H p = none → Q (.ref p) (upd H p (.dK []))) : tDNewK σ H Q := h
theorem i_fld {ta : TE} {f : Str} {σ : L2.St} (h : ta σ H fun x H1 => ∃ a C dx fs v, x = .ref a ∧ H1 a = some (.ins C dx fs) ∧ Cls K C ∧ NoAttr K C f ∧ fs.lookup f = some v ∧ Q v H1) : tFld K ta f σ H Q := h
theorem i_sfld {ta tv : TE} {f : Str} {D : Ends} {σ : L2.St} (h : tv σ H fun y H1 => ta σ H1 fun x H2 => ∃ a C dx fs, x = .ref a ∧ H2 a = some (.ins C dx fs) ∧ Cls K C ∧ NoAttr K C f ∧ fs.length < 1000 ∧ D.nx σ (upd H2 a (.ins C dx (putF f y fs)))) : sFld K ta tv f D σ H := h
/-! list(dict), len(dict) -/
def qListD : List V → Hp → VK → Prop := fun xs H Q => ∃ (a : Addr) (ns : List (List Nat)), xs = [.ref a] ∧ (∃ kvs, Rd H a (.dK kvs) ∧ kvs.map (fun kv => kV kv.1) = ns.map vS) ∧ ∀ p, H p = none → Q (.ref p) (upd H p (.lst (ns.map vS)))
theorem call_listDS {X : Cx} (hc : X.calm = true) : CallR X (.type "list") qListD := callI (call_listD hc) (by
  rintro vs H Q ⟨a, ns, rfl, ⟨kvs, h1, h2⟩, q⟩
  exact ⟨a, kvs, rfl, h1, by rw [h2]; exact q⟩)
theorem i_listD (h : DictAt R H a l) (q : ∀ p, H p = none → Q (.ref p) (upd H p (.lst ((keys l).map vS)))) : qListD [.ref a] H Q := by
  obtain ⟨kvs, h1, h2⟩ := h
  exact ⟨a, keys l, rfl, ⟨kvs, h1, h2.keys⟩, q⟩
end
/-! walks over locked dicts -/
section
variable {β : Type} {R : Hp → V → β → Prop} {H : Hp} {d : Addr} {l : List (List Nat × β)}
theorem same_unlock {H H' : Hp} {d : Addr} {o : Obj} {u : HO} (hd : H d = some u) (s : Same (upd H d (.frz o u)) H') : Same H (upd H' d u) := fun b x e => by
  by_cases z : b = d
  · rw [z, hd] at e
    rw [z, upd_same]
    exact e
  · rw [upd_ne z]
    exact s b x (by rw [upd_ne z]; exact e)
theorem upd_none_ne {H : Hp} {d q : Addr} {o : HO} (h : upd H d o q = none) : q ≠ d := fun z => by
  rw [z, upd_same] at h
  cases h
/-- for name in dict: -/
theorem for_keysD {td : TE} {g : TG} {tb : TS} {D : Ends} {σ : L2.St} {kvs : List (Key × V)} (ht : ∀ H (Q : VK), Q (.ref d) H → td σ H Q) (h : H d = some (.dK kvs)) (hR : Rows (R H) kvs l) (Pv : Nat → L2.St → Hp → Prop)
    (h0 : ∀ od, Pv 0 σ (upd H d (.frz od (.dK kvs)))) 
    (hs : ∀ od i n b σ H', l[i]? = some (n, b) → Pv i σ H' → H' d = some (.frz od (.dK kvs)) → g (vS n) σ H' fun σ2 H2 => tb ⟨fun σ' H' => Pv (i + 1) σ' H' ∧ H' d = some (.frz od (.dK kvs)), fun v H' => H' d = some (.frz od (.dK kvs)) ∧ D.rt v (upd H' d (.dK kvs)), fun σ' H' => H' d = some (.frz od (.dK kvs)) ∧ D.nx σ' (upd H' d (.dK kvs)), fun σ' H' => Pv (i + 1) σ' H' ∧ H' d = some (.frz od (.dK kvs))⟩ σ2 H2)
    (hd : ∀ od σ H', Pv l.length σ H' → H' d = some (.frz od (.dK kvs)) → D.nx σ (upd H' d (.dK kvs))) :
    tLock (tFor (iKeys td) g tb) D σ H := by
  refine ⟨d, .dK kvs, h, trivial, fun od => ?_⟩
  refine i_for ?_
  refine ht _ _ ?_
  refine ⟨d, od, rfl, .inl ⟨kvs, upd_same, ?_⟩⟩
  have hlen := paired_len hR
  refine for_it walk_keys (fun i σ H' => Pv i σ H' ∧ H' d = some (.frz od (.dK kvs))) ⟨h0 od, upd_same⟩ (fun i σ H' _ p => p.2) ?_ ?_
  · rintro i x σ H1 H' hi ⟨p, e⟩ ⟨rfl, k, v, hk, rfl⟩
    obtain ⟨n, b, h1, rfl, _⟩ := hR.get hk
    exact hs od i n b σ H' h1 p e
  · rintro σ' H' ⟨p, e⟩
    rw [hlen] at p
    exact ⟨e, hd od σ' H' p e⟩
/-- for name, value in dict.items(): -/
theorem for_itemsD {td : TE} {g : TG} {tb : TS} {D : Ends} {σ : L2.St} {kvs : List (Key × V)} (ht : ∀ H (Q : VK), Q (.ref d) H → td σ H Q) (h : H d = some (.dK kvs)) (hR : Rows (R H) kvs l) (Pv : Nat → L2.St → Hp → Prop)
    (h0 : ∀ od, Pv 0 σ (upd H d (.frz od (.dK kvs))))
    (hs : ∀ od i n b v σ H' T, l[i]? = some (n, b) → R H v b → Pv i σ H' → H' d = some (.frz od (.dK kvs)) → H' T = none → g (.ref T) σ (upd H' T (.tup [vS n, v])) fun σ2 H2 => tb ⟨fun σ' H' => Pv (i + 1) σ' H' ∧ H' d = some (.frz od (.dK kvs)), fun v H' => H' d = some (.frz od (.dK kvs)) ∧ D.rt v (upd H' d (.dK kvs)), fun σ' H' => H' d = some (.frz od (.dK kvs)) ∧ D.nx σ' (upd H' d (.dK kvs)), fun σ' H' => Pv (i + 1) σ' H' ∧ H' d = some (.frz od (.dK kvs))⟩ σ2 H2)
    (hd : ∀ od σ H', Pv l.length σ H' → H' d = some (.frz od (.dK kvs)) → D.nx σ (upd H' d (.dK kvs))) :
    tLock (tFor (iItems td) g tb) D σ H := by
  refine ⟨d, .dK kvs, h, trivial, fun od => ?_⟩
  refine i_for ?_
  refine ht _ _ ?_
  refine ⟨d, od, kvs, rfl, upd_same, ?_⟩
  have hlen := paired_len hR
  refine for_it walk_items (fun i σ H' => Pv i σ H' ∧ H' d = some (.frz od (.dK kvs))) ⟨h0 od, upd_same⟩ (fun i σ H' _ p => p.2) ?_ ?_
  · rintro i x σ H1 H' hi ⟨p, e⟩ ⟨T, y, z, rfl, hT, rfl, hy, hz⟩
    obtain ⟨kv, hkv⟩ : ∃ kv, kvs[i]? = some kv := ⟨_, get_lt hi⟩
    obtain ⟨k, v⟩ := kv
    dsimp only at hy hz
    rw [hkv] at hy hz
    cases hy
    cases hz
    obtain ⟨n, b, h1, rfl, r⟩ := hR.get hkv
    exact hs od i n b v σ H1 T h1 r p e hT
  · rintro σ' H' ⟨p, e⟩
    rw [hlen] at p
    exact ⟨e, hd od σ' H' p e⟩
end
theorem iteLF {a b : List Nat} {A B : Prop} (h : a ≠ b) (q : B) : if decide (a = b) = true then A else B := by
  rw [decide_eq_false h]
  exact q
theorem iteLT {a b : List Nat} {A B : Prop} (h : a = b) (q : A) : if decide (a = b) = true then A else B := by
  rw [decide_eq_true h]
  exact q
section
variable {K : PySem.W.Frag} {H0 H : Hp} {p : Addr} {g : TG} {tb : TS} {D : Ends} {σ : L2.St}
/-- for step in steps: -/
theorem for_steps {ss : List Step} (hS : Steps K H0 p ss) (Pv : Nat → L2.St → Hp → Prop) (h0 : Pv 0 σ H) (hsame : ∀ i σ H', Pv i σ H' → Same H0 H')
    (hs : ∀ i s a σ H', ss[i]? = some s → Pv i σ H' → SqT K H' a (stepV s) → g (.ref a) σ H' fun σ2 H2 => tb { D with nx := Pv (i + 1), ct := Pv (i + 1), bk := D.nx } σ2 H2) (hd : ∀ σ H', Pv ss.length σ H' → D.nx σ H') :
    ∃ a, V.ref p = .ref a ∧ (∃ xs, SqL K H a xs) ∧ ∃ W : Nat → Nat → L2.St → Hp → Prop, (∃ m, W 0 m σ H) ∧ ∀ i m σ H, W i m σ H →
      ((Itl K a).stop i H ∧ D.nx σ H) ∨ ((Itl K a).go i H ∧ ∃ N : L2.St → Hp → Prop, (∀ σ' H', N σ' H' → ∃ m', m' < m ∧ W (i + 1) m' σ' H') ∧ ∀ x H', (Itl K a).yld i H x H' → g x σ H' fun σ2 H2 => tb { D with nx := N, ct := N, bk := D.nx } σ2 H2) := by
  obtain ⟨us, hp, hat⟩ := hS
  have hlen := paired_len hat
  refine ⟨p, rfl, ⟨us, SqL.of (hsame _ _ _ h0 _ _ hp)⟩, ?_⟩
  refine for_list (xs := us) Pv h0 (fun i σ H' _ q => SqL.of (hsame _ _ _ q _ _ hp)) ?_ (fun σ H' q => hd σ H' (by rw [hlen] at q; exact q))
  intro i x σ H' hx q
  obtain ⟨s, hs1, r⟩ := paired_get hat hx
  obtain ⟨a, rfl, ha⟩ := r.same (hsame _ _ _ q)
  exact hs i s a σ H' hs1 q ha
/-- for text in texts: -/
theorem for_texts {ns : List (List Nat)} (Pv : Nat → L2.St → Hp → Prop) (h0 : Pv 0 σ H) (hS : ∀ i σ H', Pv i σ H' → SqL K H' p (ns.map vS))
    (hs : ∀ i n σ H', ns[i]? = some n → Pv i σ H' → g (vS n) σ H' fun σ2 H2 => tb { D with nx := Pv (i + 1), ct := Pv (i + 1), bk := D.nx } σ2 H2) (hd : ∀ σ H', Pv ns.length σ H' → D.nx σ H') :
    ∃ a, V.ref p = .ref a ∧ (∃ xs, SqL K H a xs) ∧ ∃ W : Nat → Nat → L2.St → Hp → Prop, (∃ m, W 0 m σ H) ∧ ∀ i m σ H, W i m σ H →
      ((Itl K a).stop i H ∧ D.nx σ H) ∨ ((Itl K a).go i H ∧ ∃ N : L2.St → Hp → Prop, (∀ σ' H', N σ' H' → ∃ m', m' < m ∧ W (i + 1) m' σ' H') ∧ ∀ x H', (Itl K a).yld i H x H' → g x σ H' fun σ2 H2 => tb { D with nx := N, ct := N, bk := D.nx } σ2 H2) := by
  refine ⟨p, rfl, ⟨_, hS _ _ _ h0⟩, ?_⟩
  refine for_list (xs := ns.map vS) Pv h0 (fun i σ H' _ q => hS _ _ _ q) ?_ (fun σ H' q => hd σ H' (by rw [List.length_map] at q; exact q))
  intro i x σ H' hx q
  rw [List.getElem?_map] at hx
  cases e : ns[i]? with
  | none =>
    rw [e] at hx
    cases hx
  | some n =>
    rw [e] at hx
    cases hx
    exact hs i n σ H' e q
/-- [f(m) for m in texts] -/
theorem lc_strF {ms : List (List Nat)} {i : Nat} {te : TE} {vs : List Nat} {H1 : Hp} {D : Addr} {Qd : Hp → Prop} (f : List Nat → V) (hD : H1 D = none) (hS : SqL K H1 p (ms.map vS)) (hn : ms.length ≤ 900000) (hw : ∀ x, wipe ((wipe σ vs).set i (some x)) vs = wipe σ vs)
    (he : ∀ m H, m ∈ ms → Same H1 H → ∀ Q : VK, Q (f m) H → te ((wipe σ vs).set i (some (vS m))) H Q)
    (hd : Qd (upd H1 D (.lst (ms.map f)))) :
    ∃ W : Nat → Nat → Hp → Prop, (∃ m, W 0 m (upd H1 D (.lst []))) ∧ ∀ i' m H, W i' m H →
      ((Itl K p).stop i' H ∧ Qd H) ∨ ((Itl K p).go i' H ∧ ∃ Nx : Hp → Prop, (∀ H', Nx H' → ∃ m', m' < m ∧ W (i' + 1) m' H') ∧ ∀ x H', (Itl K p).yld i' H x H' → gName i x (wipe σ vs) H' fun σ2 H2 => wipe σ2 vs = wipe σ vs ∧ tYes σ2 H2 fun b H3 =>
        if b = true then te σ2 H3 fun y H4 => ∃ acc, H4 D = some (.lst acc) ∧ acc.length < sizeLine ∧ Nx (upd H4 D (.lst (acc ++ [y]))) else Nx H3) := by
  refine lc_listR (fun x y => ∀ m, x = vS m → y = f m) hD hS (by rw [List.length_map]; exact hn) hw (fun k x H hx hs Q q => ?_) fun ys hR => ?_
  · obtain ⟨m, hm, rfl⟩ := List.mem_map.mp (List.mem_of_getElem? hx)
    exact he m H hm hs Q (q _ fun m' e => by rw [vS_inj e])
  · have e : ∀ {ms : List (List Nat)} {ys : List V}, Paired (fun x y => ∀ m, x = vS m → y = f m) (ms.map vS) ys → ys = ms.map f := by
      intro ms
      induction ms with
      | nil =>
        intro ys h
        cases h
        rfl
      | cons m r ih =>
        intro ys h
        cases h with
        | cons h1 h2 => rw [ih h2, h1 m rfl]; rfl
    rw [e hR]
    exact hd
end
end Pw

/-! Places, tables of shares: plain facts. -/
namespace Pw
open PySem PySem.Spec PyProof.Rows L2
abbrev Place := List (List Nat)
def stepP (pl : List Nat → Option Place) : Step → Place → Option Place
  | .root, _ => some []
  | .up, p => some p.dropLast
  | .share n, _ => pl n
  | .name n, p => some (p ++ [n])
def walkP (pl : List Nat → Option Place) : List Step → Place → Option Place
  | [], p => some p
  | s :: r, p => (stepP pl s p).bind (walkP pl r)
def sharesOf : List Step → List (List Nat)
  | [] => []
  | .share n :: r => n :: sharesOf r
  | .root :: r => sharesOf r
  | .up :: r => sharesOf r
  | .name _ :: r => sharesOf r
theorem sharesOf_mem {n : List Nat} : ∀ {ss : List Step}, n ∈ sharesOf ss ↔ Step.share n ∈ ss
  | [] => by simp [sharesOf]
  | s :: r => by
    have ih := sharesOf_mem (n := n) (ss := r)
    cases s <;> simp [sharesOf, ih]
theorem sharesOf_app : ∀ (a b : List Step), sharesOf (a ++ b) = sharesOf a ++ sharesOf b
  | [], b => rfl
  | s :: r, b => by
    have ih := sharesOf_app r b
    cases s <;> simp [sharesOf, ih]
theorem walkP_app (pl : List Nat → Option Place) : ∀ (a b : List Step) (p : Place), walkP pl (a ++ b) p = (walkP pl a p).bind (walkP pl b)
  | [], b, p => rfl
  | s :: a, b, p => by
    show (stepP pl s p).bind (walkP pl (a ++ b)) = ((stepP pl s p).bind (walkP pl a)).bind (walkP pl b)
    cases stepP pl s p with
    | none => rfl
    | some q => exact walkP_app pl a b q
theorem walkP_take {pl : List Nat → Option Place} {ss : List Step} {i : Nat} {s : Step} {p q : Place} (h : ss[i]? = some s) (e : walkP pl (ss.take i) p = some q) : walkP pl (ss.take (i + 1)) p = stepP pl s q := by
  rw [take_snoc h, walkP_app, e]
  show (stepP pl s q).bind (walkP pl []) = _
  cases stepP pl s q <;> rfl
theorem stepP_mono {pl pl' : List Nat → Option Place} (h : ∀ n p, pl n = some p → pl' n = some p) {s : Step} {p q : Place} (e : stepP pl s p = some q) : stepP pl' s p = some q := by
  cases s with
  | root => exact e
  | up => exact e
  | share n => exact h n q e
  | name n => exact e
theorem walkP_mono {pl pl' : List Nat → Option Place} (h : ∀ n p, pl n = some p → pl' n = some p) : ∀ {ss : List Step} {p q : Place}, walkP pl ss p = some q → walkP pl' ss p = some q
  | [], _, _, e => e
  | s :: r, p, q, e => by
    obtain ⟨z, h1, h2⟩ := Option.bind_eq_some_iff.mp e
    show (stepP pl' s p).bind (walkP pl' r) = some q
    rw [stepP_mono h h1]
    exact walkP_mono h h2
theorem walkP_congr {pl pl' : List Nat → Option Place} : ∀ {ss : List Step} {p : Place}, (∀ n ∈ sharesOf ss, pl n = pl' n) → walkP pl ss p = walkP pl' ss p
  | [], _, _ => rfl
  | s :: r, p, h => by
    have h1 : stepP pl s p = stepP pl' s p := by
      cases s with
      | root => rfl
      | up => rfl
      | share n => exact h n (by simp [sharesOf])
      | name n => rfl
    show (stepP pl s p).bind (walkP pl r) = (stepP pl' s p).bind (walkP pl' r)
    rw [h1]
    cases stepP pl' s p with
    | none => rfl
    | some q =>
      refine walkP_congr fun n hn => h n ?_
      cases s <;> simp [sharesOf, hn]
theorem walkP_some {pl : List Nat → Option Place} : ∀ {ss : List Step} (p : Place), (∀ n ∈ sharesOf ss, ∃ q, pl n = some q) → ∃ q, walkP pl ss p = some q
  | [], p, _ => ⟨p, rfl⟩
  | s :: r, p, h => by
    have h1 : ∃ q, stepP pl s p = some q := by
      cases s with
      | root => exact ⟨_, rfl⟩
      | up => exact ⟨_, rfl⟩
      | share n => exact h n (by simp [sharesOf])
      | name n => exact ⟨_, rfl⟩
    obtain ⟨q, h1⟩ := h1
    obtain ⟨z, h2⟩ := walkP_some (ss := r) q fun n hn => h n (by cases s <;> simp [sharesOf, hn])
    exact ⟨z, by show (stepP pl s p).bind (walkP pl r) = some z; rw [h1]; exact h2⟩
theorem walkP_shares {pl : List Nat → Option Place} : ∀ {ss : List Step} {p q : Place}, walkP pl ss p = some q → ∀ n ∈ sharesOf ss, ∃ z, pl n = some z
  | [], _, _, _, n, hn => by cases hn
  | s :: r, p, q, e, n, hn => by
    obtain ⟨z, h1, h2⟩ := Option.bind_eq_some_iff.mp e
    cases s with
    | share m =>
      rcases List.mem_cons.mp hn with rfl | hn
      · exact ⟨z, h1⟩
      · exact walkP_shares h2 n hn
    | root => exact walkP_shares h2 n hn
    | up => exact walkP_shares h2 n hn
    | name m => exact walkP_shares h2 n hn
theorem stepP_len {pl : List Nat → Option Place} {B : Nat} (hB : ∀ n p, pl n = some p → p.length ≤ B) {s : Step} {p q : Place} {k : Nat} (hp : p.length ≤ B + k) (e : stepP pl s p = some q) : q.length ≤ B + (k + 1) := by
  cases s with
  | root =>
    cases e
    exact Nat.zero_le _
  | up =>
    cases e
    rw [List.length_dropLast]
    omega
  | share n =>
    have := hB n q e
    omega
  | name n =>
    cases e
    rw [List.length_append]
    show p.length + 1 ≤ _
    omega
theorem walkP_len {pl : List Nat → Option Place} {B : Nat} (hB : ∀ n p, pl n = some p → p.length ≤ B) : ∀ {ss : List Step} {p q : Place} {k : Nat}, p.length ≤ B + k → walkP pl ss p = some q → q.length ≤ B + (k + ss.length)
  | [], p, q, k, h, e => by
    cases e
    exact h
  | s :: r, p, q, k, h, e => by
    obtain ⟨z, h1, h2⟩ := Option.bind_eq_some_iff.mp e
    have := walkP_len hB (stepP_len hB h h1) h2
    rw [List.length_cons]
    omega
theorem stepP_all {P : List Nat → Prop} {pl : List Nat → Option Place} (hB : ∀ n p, pl n = some p → ∀ x ∈ p, P x) {s : Step} {p q : Place} (hs : ∀ n, s = .name n → P n) (hp : ∀ x ∈ p, P x) (e : stepP pl s p = some q) : ∀ x ∈ q, P x := by
  cases s with
  | root =>
    cases e
    intro x hx
    cases hx
  | up =>
    cases e
    exact fun x hx => hp x ((List.dropLast_sublist p).subset hx)
  | share n => exact hB n q e
  | name n =>
    cases e
    intro x hx
    rcases List.mem_append.mp hx with h | h
    · exact hp x h
    · rw [List.mem_singleton.mp h]
      exact hs n rfl
theorem walkP_all {P : List Nat → Prop} {pl : List Nat → Option Place} (hB : ∀ n p, pl n = some p → ∀ x ∈ p, P x) : ∀ {ss : List Step} {p q : Place}, (∀ n, Step.name n ∈ ss → P n) → (∀ x ∈ p, P x) → walkP pl ss p = some q → ∀ x ∈ q, P x
  | [], p, q, _, h, e => by
    cases e
    exact h
  | s :: r, p, q, hs, h, e => by
    obtain ⟨z, h1, h2⟩ := Option.bind_eq_some_iff.mp e
    exact walkP_all hB (fun n hn => hs n (List.mem_cons_of_mem _ hn)) (stepP_all hB (fun n e => hs n (by rw [e]; exact List.mem_cons_self)) h h1) h2
/-! ### the place of a share -/
abbrev Tab := List (List Nat × List Step)
def placeF (rows : Tab) : Nat → List Nat → Option Place
  | 0, _ => none
  | k + 1, n => match look rows n with | none => none | some ss => walkP (placeF rows k) ss []
def PlaceOf (rows : Tab) (n : List Nat) (p : Place) : Prop := ∃ k, placeF rows k n = some p
theorem placeF_succ {rows : Tab} : ∀ {k : Nat} {n : List Nat} {p : Place}, placeF rows k n = some p → placeF rows (k + 1) n = some p
  | 0, _, _, h => by cases h
  | k + 1, n, p, h => by
    rw [placeF] at h ⊢
    cases e : look rows n with
    | none =>
      rw [e] at h
      cases h
    | some ss =>
      rw [e] at h
      exact walkP_mono (fun _ _ q => placeF_succ q) h
theorem placeF_le {rows : Tab} {k j : Nat} {n : List Nat} {p : Place} (h : placeF rows k n = some p) (hj : k ≤ j) : placeF rows j n = some p := by
  obtain ⟨d, rfl⟩ := Nat.le.dest hj
  clear hj
  induction d with
  | zero => exact h
  | succ d ih => exact placeF_succ ih
theorem PlaceOf.uniq {rows : Tab} {n : List Nat} {p q : Place} (h1 : PlaceOf rows n p) (h2 : PlaceOf rows n q) : p = q := by
  obtain ⟨k, h1⟩ := h1
  obtain ⟨j, h2⟩ := h2
  have e1 := placeF_le h1 (Nat.le_max_left k j)
  have e2 := placeF_le h2 (Nat.le_max_right k j)
  rw [e1] at e2
  exact Option.some.inj e2
theorem PlaceOf.key {rows : Tab} {n : List Nat} {p : Place} (h : PlaceOf rows n p) : n ∈ keys rows := by
  obtain ⟨k, h⟩ := h
  cases k with
  | zero => cases h
  | succ k =>
    rw [placeF] at h
    cases e : look rows n with
    | none =>
      rw [e] at h
      cases h
    | some ss => exact List.mem_map.mpr ⟨_, look_mem e, rfl⟩
/-- one fuel for all -/
theorem fuel_all {rows : Tab} {pl : List Nat → Option Place} (h : ∀ n p, pl n = some p → PlaceOf rows n p) : ∀ ms : List (List Nat), (∀ m ∈ ms, ∃ p, pl m = some p) → ∃ k, ∀ m ∈ ms, placeF rows k m = pl m
  | [], _ => ⟨0, fun m hm => by cases hm⟩
  | m :: r, hm => by
    obtain ⟨k, hk⟩ := fuel_all h r fun x hx => hm x (List.mem_cons_of_mem _ hx)
    obtain ⟨p, hp⟩ := hm m List.mem_cons_self
    obtain ⟨j, hj⟩ := h m p hp
    refine ⟨max k j, fun x hx => ?_⟩
    rcases List.mem_cons.mp hx with rfl | hx
    · rw [hp]
      exact placeF_le hj (Nat.le_max_right _ _)
    · obtain ⟨z, hz⟩ := hm x (List.mem_cons_of_mem _ hx)
      have := hk x hx
      rw [hz] at this ⊢
      exact placeF_le this (Nat.le_max_left _ _)
theorem PlaceOf.new {rows : Tab} {pl : List Nat → Option Place} {n : List Nat} {ss : List Step} {q : Place} (h : ∀ n p, pl n = some p → PlaceOf rows n p) (hn : look rows n = some ss) (e : walkP pl ss [] = some q) : PlaceOf rows n q := by
  obtain ⟨k, hk⟩ := fuel_all h (sharesOf ss) (walkP_shares e)
  refine ⟨k + 1, ?_⟩
  rw [placeF, hn]
  show walkP (placeF rows k) ss [] = some q
  rw [walkP_congr hk]
  exact e
def Closed (rows : Tab) : Prop := ∀ n ss, (n, ss) ∈ rows → ∀ m ∈ sharesOf ss, m ∈ keys rows
/-- where nothing can be placed any more -/
theorem stuck {rows : Tab} {spots : List (List Nat × Place)} {wn : List (List Nat)} (hc : Closed rows) (hall : ∀ n ∈ keys rows, n ∈ keys spots ∨ n ∈ wn) (hst : ∀ n ∈ wn, ∃ ss, look rows n = some ss ∧ ∃ m ∈ sharesOf ss, m ∉ keys spots) :
    ∀ (k : Nat) (n : List Nat), n ∈ wn → placeF rows k n = none
  | 0, _, _ => rfl
  | k + 1, n, hn => by
    obtain ⟨ss, h1, m, hm, hms⟩ := hst n hn
    have hmw : m ∈ wn := (hall m (hc n ss (look_mem h1) m hm)).resolve_left hms
    have ih := stuck hc hall hst k m hmw
    rw [placeF, h1]
    show walkP (placeF rows k) ss [] = none
    cases e : walkP (placeF rows k) ss [] with
    | none => rfl
    | some q =>
      obtain ⟨z, hz⟩ := walkP_shares e m hm
      rw [ih] at hz
      cases hz
structure SpotsOf (rows : Tab) (spots : List (List Nat × Place)) : Prop where
  nd : (keys spots).Nodup
  all : ∀ n, n ∈ keys spots ↔ n ∈ keys rows
  ok : ∀ n p, look spots n = some p → PlaceOf rows n p
/-- the table's lines and their steps -/
def LinesRows (lines : List (List Nat × List Nat)) (rows : Tab) : Prop := Paired (fun l r => l.1 = r.1 ∧ stepsOf l.2 = some r.2) lines rows
theorem LinesRows.keys {lines : List (List Nat × List Nat)} {rows : Tab} (h : LinesRows lines rows) : keys lines = keys rows := by
  induction h with
  | nil => rfl
  | cons r _ ih =>
    show _ :: Pw.keys _ = _ :: Pw.keys _
    rw [ih, r.1]
theorem LinesRows.uniq {lines : List (List Nat × List Nat)} {rows rows' : Tab} (h : LinesRows lines rows) (h' : LinesRows lines rows') : rows = rows' := by
  induction h generalizing rows' with
  | nil =>
    cases h'
    rfl
  | cons r _ ih =>
    cases h' with
    | cons r' t' =>
      rw [ih t']
      congr 1
      refine Prod.ext (r.1.symm.trans r'.1) ?_
      have := r.2.symm.trans r'.2
      exact Option.some.inj this
end Pw

/-! Promises: places, walks, tables of shares. -/
namespace Pw
open PySem PySem.Spec PyProof.Rows L2
/-- an object of Shares -/
def SharesAt (C : Ad) (H : Hp) (x : Addr) (names : List (List Nat)) (spots : List (List Nat × Place)) : Prop :=
  ∃ dx o s, H x = some (.ins C.Sh dx [("order", .ref o), ("spots", .ref s)]) ∧ H o = some (.lst (names.map vS)) ∧ DictM placeR H s spots
theorem SharesAt.same {C : Ad} {H H' : Hp} {x : Addr} {names : List (List Nat)} {spots : List (List Nat × Place)} (e : Same H H') (h : SharesAt C H x names spots) : SharesAt C H' x names spots := by
  obtain ⟨dx, o, s, h1, h2, h3⟩ := h
  exact ⟨dx, o, s, e _ _ h1, e _ _ h2, h3.same placeR_grows e⟩
/-- what is known of the class Shares -/
structure FxSh (K : PySem.W.Frag) (C : Ad) : Prop where
  cl : Cls K C.Sh
  na_order : NoAttr K C.Sh "order"
  na_spots : NoAttr K C.Sh "spots"
/-- no place of the table is longer than B -/
def Short (B : Nat) (spots : List (List Nat × Place)) : Prop := ∀ n p, look spots n = some p → p.length ≤ B
section
variable {K : PySem.W.Frag} {C : Ad} {H : Hp} {Q : VK} {E : XK}
def sp_l_place_by (K : PySem.W.Frag) (C : Ad) : Sp := fun vs H Q _ => ∃ (a : Addr) (cs : List Int), vs = [.ref a] ∧ SqL K H a (cs.map V.int) ∧ cs.length ≤ 1000 ∧
  ∀ (p : Addr) (pl : Place), H p = none → pl.length = cs.length → (∀ n ∈ pl, Nm n) → Q (.ref p) (upd H p (.lst (pl.map vS)))
theorem i_l_place_by {a : Addr} {cs : List Int} (h : SqL K H a (cs.map V.int)) (hl : cs.length ≤ 1000) (q : ∀ (p : Addr) (pl : Place), H p = none → pl.length = cs.length → (∀ n ∈ pl, Nm n) → Q (.ref p) (upd H p (.lst (pl.map vS)))) : sp_l_place_by K C [.ref a] H Q E := ⟨a, cs, rfl, h, hl, q⟩
def sp_p_Shares_place (K : PySem.W.Frag) (C : Ad) : Sp := fun vs H Q E => ∃ (x : Addr) (n : List Nat) (names : List (List Nat)) (spots : List (List Nat × Place)), vs = [.ref x, vS n] ∧ SharesAt C H x names spots ∧
  (∀ pl q H', look spots n = some pl → Same H H' → H q = none → H' q = some (.lst (pl.map vS)) → Q (.ref q) H') ∧ (look spots n = none → E (.ref C.N) none H)
theorem i_p_Shares_place {x : Addr} {n : List Nat} {names : List (List Nat)} {spots : List (List Nat × Place)} (h : SharesAt C H x names spots) (q : ∀ pl q H', look spots n = some pl → Same H H' → H q = none → H' q = some (.lst (pl.map vS)) → Q (.ref q) H')
    (e : look spots n = none → E (.ref C.N) none H) : sp_p_Shares_place K C [.ref x, vS n] H Q E := ⟨x, n, names, spots, rfl, h, q, e⟩
def sp_p_Shares_names (K : PySem.W.Frag) (C : Ad) : Sp := fun vs H Q E => ∃ (x : Addr) (names : List (List Nat)) (spots : List (List Nat × Place)), vs = [.ref x] ∧ SharesAt C H x names spots ∧
  (∀ q, H q = none → Q (.ref q) (upd H q (.lst (names.map vS))))
theorem i_p_Shares_names {x : Addr} {names : List (List Nat)} {spots : List (List Nat × Place)} (h : SharesAt C H x names spots) (q : ∀ q, H q = none → Q (.ref q) (upd H q (.lst (names.map vS)))) : sp_p_Shares_names K C [.ref x] H Q E := ⟨x, names, spots, rfl, h, q⟩
def sp_p_walk (K : PySem.W.Frag) (C : Ad) : Sp := fun vs H Q E => ∃ (p x : Addr) (l : List Nat) (start : Place) (names : List (List Nat)) (spots : List (List Nat × Place)), vs = [.ref p, vS l, .ref x] ∧ SqL K H p (start.map vS) ∧ l.length ≤ 300000 ∧ start.length ≤ 300000 ∧
  SharesAt C H x names spots ∧ Short 300000 spots ∧
  (∀ ss pl q H', stepsOf l = some ss → walkP (look spots) ss start = some pl → Same H H' → H q = none → H' q = some (.lst (pl.map vS)) → Q (.ref q) H') ∧
  (stepsOf l = none → ∀ H', Same H H' → E (.ref C.B) none H') ∧ (∀ ss, stepsOf l = some ss → walkP (look spots) ss start = none → ∀ H', Same H H' → E (.ref C.N) none H')
theorem i_p_walk {p x : Addr} {l : List Nat} {start : Place} {names : List (List Nat)} {spots : List (List Nat × Place)} (hp : SqL K H p (start.map vS)) (hl : l.length ≤ 300000) (hs : start.length ≤ 300000) (hx : SharesAt C H x names spots) (hsh : Short 300000 spots)
    (q : ∀ ss pl q H', stepsOf l = some ss → walkP (look spots) ss start = some pl → Same H H' → H q = none → H' q = some (.lst (pl.map vS)) → Q (.ref q) H')
    (e1 : stepsOf l = none → ∀ H', Same H H' → E (.ref C.B) none H') (e2 : ∀ ss, stepsOf l = some ss → walkP (look spots) ss start = none → ∀ H', Same H H' → E (.ref C.N) none H') : sp_p_walk K C [.ref p, vS l, .ref x] H Q E :=
  ⟨p, x, l, start, names, spots, rfl, hp, hl, hs, hx, hsh, q, e1, e2⟩
def sp_l_far_by (K : PySem.W.Frag) (C : Ad) : Sp := fun vs H Q _ => ∃ c : Int, vs = [.int c] ∧ ∀ v H' l ss, Same H H' → PathAt K H' v l ss → Drawn [] 1500 l ss → Q v H'
theorem i_l_far_by {c : Int} (q : ∀ v H' l ss, Same H H' → PathAt K H' v l ss → Drawn [] 1500 l ss → Q v H') : sp_l_far_by K C [.int c] H Q E := ⟨c, rfl, q⟩
def sp_p_gone (K : PySem.W.Frag) (C : Ad) : Sp := fun vs H Q _ => ∃ (p s : Addr) (v : V) (pl pl' : Place) (st : Step) (spots : List (List Nat × Place)), vs = [.ref p, v, .ref s] ∧ H p = some (.lst (pl.map vS)) ∧ pl.length < 1000000 ∧ StepAt K H v st ∧ DictAt placeR H s spots ∧
  stepP (look spots) st pl = some pl' ∧ ∀ q H', Same H H' → H q = none → H' q = some (.lst (pl'.map vS)) → Q (.ref q) H'
theorem i_p_gone {p s : Addr} {v : V} {pl pl' : Place} {st : Step} {spots : List (List Nat × Place)} (hp : H p = some (.lst (pl.map vS))) (hl : pl.length < 1000000) (hv : StepAt K H v st) (hs : DictAt placeR H s spots) (e : stepP (look spots) st pl = some pl')
    (q : ∀ q H', Same H H' → H q = none → H' q = some (.lst (pl'.map vS)) → Q (.ref q) H') : sp_p_gone K C [.ref p, v, .ref s] H Q E := ⟨p, s, v, pl, pl', st, spots, rfl, hp, hl, hv, hs, e, q⟩
def sp_p_wanted (K : PySem.W.Frag) (C : Ad) : Sp := fun vs H Q _ => ∃ (p : Addr) (ss : List Step), vs = [.ref p] ∧ Steps K H p ss ∧ ss.length ≤ 900000 ∧ ∀ q, H q = none → Q (.ref q) (upd H q (.lst ((sharesOf ss).map vS)))
theorem i_p_wanted {p : Addr} {ss : List Step} (h : Steps K H p ss) (hl : ss.length ≤ 900000) (q : ∀ q, H q = none → Q (.ref q) (upd H q (.lst ((sharesOf ss).map vS)))) : sp_p_wanted K C [.ref p] H Q E := ⟨p, ss, rfl, h, hl, q⟩
/-- a table that is not too big -/
structure Small (rows : Tab) : Prop where
  num : rows.length ≤ 500
  len : ∀ n ss, (n, ss) ∈ rows → ss.length ≤ 500
  nd : (keys rows).Nodup
def sp_p_settled (K : PySem.W.Frag) (C : Ad) : Sp := fun vs H Q E => ∃ (r : Addr) (rows : Tab), vs = [.ref r] ∧ DictM (stepsR K) H r rows ∧ Small rows ∧ Closed rows ∧
  (∀ s H' spots, Same H H' → DictM placeR H' s spots → SpotsOf rows spots → Short 300000 spots → H s = none → Q (.ref s) H') ∧ ((∃ n ∈ keys rows, ∀ p, ¬ PlaceOf rows n p) → ∀ H', Same H H' → E (.ref C.R) none H')
theorem i_p_settled {r : Addr} {rows : Tab} (h : DictM (stepsR K) H r rows) (hs : Small rows) (hc : Closed rows) (q : ∀ s H' spots, Same H H' → DictM placeR H' s spots → SpotsOf rows spots → Short 300000 spots → H s = none → Q (.ref s) H')
    (e : (∃ n ∈ keys rows, ∀ p, ¬ PlaceOf rows n p) → ∀ H', Same H H' → E (.ref C.R) none H') : sp_p_settled K C [.ref r] H Q E := ⟨r, rows, rfl, h, hs, hc, q, e⟩
/-- a table of lines that is not too big -/
structure SmallL (lines : List (List Nat × List Nat)) : Prop where
  num : lines.length ≤ 500
  len : ∀ n l, (n, l) ∈ lines → l.length ≤ 300000
  steps : ∀ n l ss, (n, l) ∈ lines → stepsOf l = some ss → ss.length ≤ 500
  nd : (keys lines).Nodup
/-- all but the object itself stays -/
def SameX (x : Addr) (H H' : Hp) : Prop := ∀ b o, b ≠ x → H b = some o → H' b = some o
def sp_p_Shares_init (K : PySem.W.Frag) (C : Ad) : Sp := fun vs H Q E => ∃ (x t dx : Addr) (lines : List (List Nat × List Nat)), vs = [.ref x, .ref t] ∧ H x = some (.ins C.Sh dx []) ∧ DictM txtR H t lines ∧ SmallL lines ∧
  (∀ rows spots H', LinesRows lines rows → Closed rows → SpotsOf rows spots → Short 300000 spots → SameX x H H' → SharesAt C H' x (keys lines) spots → Q .non H') ∧
  ((∃ n l, (n, l) ∈ lines ∧ stepsOf l = none) → ∀ H', E (.ref C.B) none H') ∧ (∀ rows, LinesRows lines rows → ¬ Closed rows → ∀ H', E (.ref C.N) none H') ∧
  (∀ rows, LinesRows lines rows → Closed rows → (∃ n ∈ keys rows, ∀ p, ¬ PlaceOf rows n p) → ∀ H', E (.ref C.R) none H')
/-- Shares(table) -/
theorem i_shares {E : L2.St → XK} {t : TA} {σ : L2.St} (h : t σ H fun vs H1 => ∃ (a : Addr) (lines : List (List Nat × List Nat)), vs = [.ref a] ∧ DictM txtR H1 a lines ∧ SmallL lines ∧
    (∀ x rows spots H', LinesRows lines rows → Closed rows → SpotsOf rows spots → Short 300000 spots → Same H1 H' → H1 x = none → SharesAt C H' x (keys lines) spots → Q (.ref x) H') ∧
    ((∃ n l, (n, l) ∈ lines ∧ stepsOf l = none) → ∀ H', E σ (.ref C.B) none H') ∧ (∀ rows, LinesRows lines rows → ¬ Closed rows → ∀ H', E σ (.ref C.N) none H') ∧
    (∀ rows, LinesRows lines rows → Closed rows → (∃ n ∈ keys rows, ∀ p, ¬ PlaceOf rows n p) → ∀ H', E σ (.ref C.R) none H'))
    (mono : ∀ Q Q' : List V → Hp → Prop, (∀ vs H, Q vs H → Q' vs H) → t σ H Q → t σ H Q') : tMkS C.Sh (sp_p_Shares_init K C) E t σ H Q := by
  refine mono _ _ (fun vs H1 hh => ?_) h
  obtain ⟨a, lines, rfl, hd, hs, q, e1, e2, e3⟩ := hh
  intro x dx hx hdx hne
  have s1 : Same H1 (upd (upd H1 dx (.own x)) x (.ins C.Sh dx [])) := (same_new hdx).trans (same_new (by rw [upd_ne (fun z => hne z.symm)]; exact hx))
  refine ⟨x, a, dx, lines, rfl, upd_same, hd.same txtR_grows s1, hs, fun rows spots H' r1 r2 r3 r4 r5 r6 => ⟨rfl, ?_⟩, e1, e2, e3⟩
  refine q x rows spots H' r1 r2 r3 r4 (fun b o e => ?_) hx r6
  have nx : b ≠ x := fun z => by
    rw [z, hx] at e
    cases e
  exact r5 b o nx (s1 b o e)
theorem i_met {Cl : Addr} {m : Str} {sp : Sp} {E : L2.St → XK} {ta : TE} {t : TA} {σ : L2.St} (h : ta σ H fun x H1 => ∃ a dx fs, x = .ref a ∧ H1 a = some (.ins Cl dx fs) ∧ fs.lookup m = none ∧ t σ H1 fun vs H2 => sp (x :: vs) H2 Q (E σ)) : tMetS Cl m sp E ta t σ H Q := h
theorem SharesAt.met {x : Addr} {names : List (List Nat)} {spots : List (List Nat × Place)} {m : Str} {P : Prop} (h : SharesAt C H x names spots) (hm : ∀ o s : Addr, ([("order", .ref o), ("spots", .ref s)] : List (Str × V)).lookup m = none) (q : P) :
    ∃ a dx fs, V.ref x = .ref a ∧ H a = some (.ins C.Sh dx fs) ∧ fs.lookup m = none ∧ P := by
  obtain ⟨dx, o, s, h1, h2, h3⟩ := h
  exact ⟨x, dx, _, rfl, h1, hm o s, q⟩
def sp_l_texts (K : PySem.W.Frag) (C : Ad) : Sp := fun vs H Q _ => ∃ (p : Addr) (pl : Place), vs = [.ref p] ∧ H p = some (.lst (pl.map vS)) ∧ pl.length ≤ 900000 ∧ ∀ H', Same H H' → Q (.bl true) H'
theorem i_l_texts {p : Addr} {pl : Place} (h : H p = some (.lst (pl.map vS))) (hl : pl.length ≤ 900000) (q : ∀ H', Same H H' → Q (.bl true) H') : sp_l_texts K C [.ref p] H Q E := ⟨p, pl, rfl, h, hl, q⟩
def sp_l_walk (K : PySem.W.Frag) (C : Ad) : Sp := fun vs H Q _ => ∃ (p s d : Addr) (start pl : Place) (ss : List Step) (places : List (List Nat × Place)), vs = [.ref p, .ref s, .ref d] ∧ SqL K H p (start.map vS) ∧ Steps K H s ss ∧ DictAt placeR H d places ∧ start.length + ss.length ≤ 500000 ∧ Short 400000 places ∧
  walkP (look places) ss start = some pl ∧ ∀ q H', Same H H' → H q = none → H' q = some (.lst (pl.map vS)) → Q (.ref q) H'
theorem i_l_walk {p s d : Addr} {start pl : Place} {ss : List Step} {places : List (List Nat × Place)} (hp : SqL K H p (start.map vS)) (hs : Steps K H s ss) (hd : DictAt placeR H d places) (hl : start.length + ss.length ≤ 500000) (hsh : Short 400000 places)
    (e : walkP (look places) ss start = some pl) (q : ∀ q H', Same H H' → H q = none → H' q = some (.lst (pl.map vS)) → Q (.ref q) H') : sp_l_walk K C [.ref p, .ref s, .ref d] H Q E := ⟨p, s, d, start, pl, ss, places, rfl, hp, hs, hd, hl, hsh, e, q⟩
def sp_l_walk_k06 (K : PySem.W.Frag) (C : Ad) : Sp := sp_l_walk K C
def sp_l_place_by_b (K : PySem.W.Frag) (C : Ad) : Sp := sp_l_place_by K C
def sp_l_path_by_b (K : PySem.W.Frag) (C : Ad) : Sp := sp_l_path_by K C
end
end Pw

/-! Lines told plainly: plain facts. -/
namespace Pw
open PySem PySem.Spec PyProof.Rows L2
def toldParts (u : Nat) (ns : Place) : List (List Nat) := List.replicate u [46, 46] ++ ns.map written
def toldL (r : Bool) (u : Nat) (ns : Place) : List Nat := if r = true then 47 :: joinS (toldParts u ns) else if toldParts u ns = [] then [46] else joinS (toldParts u ns)
def toldSteps (r : Bool) (u : Nat) (ns : Place) : List Step := (if r = true then [.root] else []) ++ (List.replicate u .up ++ ns.map .name)
def AllNm (ns : Place) : Prop := ∀ n ∈ ns, Nm n
theorem toldParts_len (u : Nat) (ns : Place) : (toldParts u ns).length = u + ns.length := by simp [toldParts]
theorem toldParts_mem {u : Nat} {ns : Place} (h : AllNm ns) : ∀ p ∈ toldParts u ns, 47 ∉ p ∧ p ≠ [] ∧ p ≠ [46] ∧ p.length ≤ 129 ∧ p.head? ≠ some 64 := by
  intro p hp
  rcases List.mem_append.mp hp with q | q
  · rw [(List.mem_replicate.mp q).2]
    decide
  · obtain ⟨n, hn, rfl⟩ := List.mem_map.mp q
    have hw := written_plain (h n hn).lo
    have hl := written_len n
    have := (h n hn).hi
    exact ⟨written_free (h n hn).nd, hw.ne, hw.dot, by omega, hw.at_⟩
theorem toldParts_join_len {u : Nat} {ns : Place} (h : AllNm ns) : (joinS (toldParts u ns)).length ≤ 130 * (u + ns.length) := by
  have h1 := joinS_len (toldParts u ns)
  have h2 : sumL (toldParts u ns) ≤ 129 * (toldParts u ns).length := sumL_le fun p hp => (toldParts_mem h p hp).2.2.2.1
  rw [toldParts_len] at h1 h2
  omega
theorem toldL_len {r : Bool} {u : Nat} {ns : Place} (h : AllNm ns) : (toldL r u ns).length ≤ 130 * (u + ns.length) + 1 := by
  have := toldParts_join_len (u := u) h
  unfold toldL
  split
  · simp
    omega
  · split
    · simp
    · omega
theorem join_head {ps : List (List Nat)} {p : List Nat} (h : ps.head? = some p) (hp : p ≠ []) : (joinS ps).head? = p.head? := by
  cases p with
  | nil => exact absurd rfl hp
  | cons c r => 
    match ps, h with
    | [x], h =>
      cases h
      rfl
    | x :: y :: t, h =>
      cases h
      rfl
theorem told_head {u : Nat} {ns : Place} (h : AllNm ns) : (toldL false u ns).head? ≠ some 47 := by
  unfold toldL
  rw [if_neg (by decide)]
  split
  · decide
  · rename_i hne
    cases e : toldParts u ns with
    | nil => exact absurd e hne
    | cons p t =>
      have hp := toldParts_mem h p (by rw [e]; exact List.mem_cons_self)
      rw [join_head (p := p) rfl hp.2.1]
      intro z
      cases p with
      | nil => cases z
      | cons c r =>
        have : c = 47 := by simpa using z
        exact hp.1 (by rw [this]; exact List.mem_cons_self)
theorem take1_head {l : List Nat} {c : Nat} : l.take 1 = [c] ↔ l.head? = some c := by
  cases l with
  | nil => simp
  | cons a r => simp
theorem told_root {u : Nat} {ns : Place} (h : AllNm ns) (r : Bool) : (toldL r u ns).take 1 = [47] ↔ r = true := by
  rw [take1_head]
  cases r with
  | true =>
    constructor
    · exact fun _ => rfl
    · exact fun _ => rfl
  | false =>
    constructor
    · exact fun e => absurd e (told_head h)
    · intro e
      cases e
theorem join_single {ps : List (List Nat)} (hf : ∀ p ∈ ps, 47 ∉ p) {x : List Nat} (hx : 47 ∉ x) (hne : ps ≠ []) (e : joinS ps = x) : ps = [x] := by
  have h := split_join hne hf
  rw [e, splitS_free hx] at h
  exact h.symm
/-- the line is a stroke or a dot alone where there are no parts -/
theorem told_bare {u : Nat} {ns : Place} (h : AllNm ns) (r : Bool) : (toldL r u ns = [47] ∨ toldL r u ns = [46]) ↔ toldParts u ns = [] := by
  have hm := toldParts_mem (u := u) h
  constructor
  · intro e
    by_cases z : toldParts u ns = []
    · exact z
    · unfold toldL at e
      cases r with
      | true =>
        rw [if_pos rfl] at e
        rcases e with e | e
        · have e2 : joinS (toldParts u ns) = [] := by simpa using e
          have := join_single (fun p hp => (hm p hp).1) (by simp) z e2
          exact absurd rfl ((hm [] (by rw [this]; exact List.mem_singleton.mpr rfl)).2.1)
        · simp at e
      | false =>
        rw [if_neg (by decide), if_neg z] at e
        rcases e with e | e
        · have hh := told_head (u := u) h
          unfold toldL at hh
          rw [if_neg (by decide), if_neg z, e] at hh
          exact absurd rfl hh
        · have := join_single (fun p hp => (hm p hp).1) (by decide) z e
          exact absurd rfl ((hm [46] (by rw [this]; exact List.mem_singleton.mpr rfl)).2.2.1)
  · intro e
    unfold toldL
    rw [e]
    cases r with
    | true => exact .inl rfl
    | false => exact .inr rfl
theorem told_nil_iff {u : Nat} {ns : Place} : toldParts u ns = [] ↔ u = 0 ∧ ns = [] := by
  unfold toldParts
  constructor
  · intro e
    have := List.append_eq_nil_iff.mp e
    refine ⟨?_, by simpa using this.2⟩
    have h1 := congrArg List.length this.1
    simpa using h1
  · rintro ⟨rfl, rfl⟩
    rfl
/-- the steps of the parts told -/
def partSteps (u : Nat) (ns : Place) : List Step := List.replicate u .up ++ ns.map .name
theorem partSteps_len (u : Nat) (ns : Place) : (partSteps u ns).length = u + ns.length := by simp [partSteps]
theorem parts_get {u : Nat} {ns : Place} {i : Nat} {p : List Nat} (h : (toldParts u ns)[i]? = some p) : (p = [46, 46] ∧ (partSteps u ns)[i]? = some .up) ∨ ∃ n ∈ ns, p = written n ∧ (partSteps u ns)[i]? = some (.name n) := by
  unfold toldParts partSteps at *
  by_cases hi : i < u
  · rw [List.getElem?_append_left (by simpa using hi)] at h ⊢
    rw [List.getElem?_replicate, if_pos hi] at h ⊢
    cases h
    exact .inl ⟨rfl, rfl⟩
  · rw [List.getElem?_append_right (by simpa using Nat.le_of_not_lt hi)] at h ⊢
    rw [List.length_replicate] at h ⊢
    rw [List.getElem?_map] at h ⊢
    cases e : ns[i - u]? with
    | none =>
      rw [e] at h
      cases h
    | some n =>
      rw [e] at h
      cases h
      exact .inr ⟨n, List.mem_of_getElem? e, rfl, rfl⟩
theorem written_dots {n : List Nat} (h : Nm n) : written n ≠ [46, 46] := (written_plain h.lo).dots
/-- how many names both have in common from the start -/
def shN : Place → Place → Nat
  | a :: x, b :: y => if a = b then shN x y + 1 else 0
  | _, _ => 0
theorem shN_le : ∀ (x y : Place), shN x y ≤ x.length ∧ shN x y ≤ y.length
  | [], y => by simp [shN]
  | a :: x, [] => by simp [shN]
  | a :: x, b :: y => by
    have ih := shN_le x y
    rw [shN]
    split
    · simp
      omega
    · simp
theorem shN_take : ∀ (x y : Place), x.take (shN x y) = y.take (shN x y)
  | [], y => by simp [shN]
  | a :: x, [] => by simp [shN]
  | a :: x, b :: y => by
    rw [shN]
    split
    · rename_i h
      rw [h, List.take_succ_cons, List.take_succ_cons, shN_take x y]
    · rfl
theorem shN_at : ∀ {x y : Place} {i : Nat} {a b : List Nat}, x.take i = y.take i → x[i]? = some a → y[i]? = some b → a ≠ b → shN x y = i
  | [], y, i, a, b, _, h, _, _ => by simp at h
  | c :: x, [], i, a, b, _, _, h, _ => by simp at h
  | c :: x, d :: y, 0, a, b, _, h1, h2, h3 => by
    simp at h1 h2
    subst h1 h2
    rw [shN, if_neg h3]
  | c :: x, d :: y, i + 1, a, b, h, h1, h2, h3 => by
    rw [List.take_succ_cons, List.take_succ_cons] at h
    rw [List.getElem?_cons_succ] at h1 h2
    have e := List.cons.inj h
    rw [shN, if_pos e.1, shN_at e.2 h1 h2 h3]
theorem shN_end : ∀ {x y : Place} {i : Nat}, x.take i = y.take i → i ≤ x.length → i ≤ y.length → (i = x.length ∨ i = y.length) → shN x y = i
  | [], y, i, _, h, _, _ => by
    have : i = 0 := by simpa using h
    rw [this]
    rfl
  | c :: x, [], i, _, _, h, _ => by
    have : i = 0 := by simpa using h
    rw [this]
    rfl
  | c :: x, d :: y, 0, _, _, _, h => by
    rcases h with h | h <;> cases h
  | c :: x, d :: y, i + 1, h, h1, h2, h3 => by
    rw [List.take_succ_cons, List.take_succ_cons] at h
    have e := List.cons.inj h
    have ih := shN_end (x := x) (y := y) (i := i) e.2 (by simpa using h1) (by simpa using h2) (by simpa using h3)
    rw [shN, if_pos e.1, ih]
theorem shN_self : ∀ x : Place, shN x x = x.length
  | [] => rfl
  | a :: x => by
    rw [shN, if_pos rfl, shN_self x]
    rfl
/-! walks of plain steps -/
theorem walk_ups (pl : List Nat → Option Place) : ∀ (u : Nat) (p : Place), walkP pl (List.replicate u .up) p = some (p.take (p.length - u))
  | 0, p => by simp [walkP]
  | u + 1, p => by
    rw [List.replicate_succ]
    show (some p.dropLast).bind (walkP pl (List.replicate u .up)) = _
    show walkP pl (List.replicate u .up) p.dropLast = _
    rw [walk_ups pl u p.dropLast, List.dropLast_eq_take, List.take_take, List.length_take]
    congr 2
    omega
theorem walk_names (pl : List Nat → Option Place) : ∀ (ns p : Place), walkP pl (ns.map .name) p = some (p ++ ns)
  | [], p => by simp [walkP]
  | n :: ns, p => by
    rw [List.map_cons]
    show walkP pl (ns.map .name) (p ++ [n]) = _
    rw [walk_names pl ns]
    simp
theorem walk_parts (pl : List Nat → Option Place) (u : Nat) (ns p : Place) : walkP pl (partSteps u ns) p = some (p.take (p.length - u) ++ ns) := by
  rw [partSteps, walkP_app, walk_ups]
  show walkP pl (ns.map .name) _ = _
  rw [walk_names]
theorem walk_told (pl : List Nat → Option Place) (r : Bool) (u : Nat) (ns p : Place) : walkP pl (toldSteps r u ns) p = some (if r = true then ns else p.take (p.length - u) ++ ns) := by
  unfold toldSteps
  cases r with
  | true =>
    show walkP pl (partSteps u ns) [] = _
    rw [walk_parts]
    simp
  | false =>
    show walkP pl (partSteps u ns) p = _
    rw [walk_parts]
    rfl
theorem toldSteps_len (r : Bool) (u : Nat) (ns : Place) : (toldSteps r u ns).length ≤ u + ns.length + 1 := by
  cases r <;> simp [toldSteps] <;> omega
end Pw

/-! Promises: lines told. -/
namespace Pw
open PySem PySem.Spec PyProof.Rows L2
def cntUp : List Step → Nat
  | [] => 0
  | .up :: r => cntUp r + 1
  | .root :: r => cntUp r
  | .share _ :: r => cntUp r
  | .name _ :: r => cntUp r
def namesS : List Step → Place
  | [] => []
  | .name n :: r => n :: namesS r
  | .root :: r => namesS r
  | .share _ :: r => namesS r
  | .up :: r => namesS r
theorem cntUp_app : ∀ (a b : List Step), cntUp (a ++ b) = cntUp a + cntUp b
  | [], b => by simp [cntUp]
  | s :: r, b => by
    have ih := cntUp_app r b
    cases s <;> simp [cntUp, ih] <;> omega
theorem namesS_app : ∀ (a b : List Step), namesS (a ++ b) = namesS a ++ namesS b
  | [], b => rfl
  | s :: r, b => by
    have ih := namesS_app r b
    cases s <;> simp [namesS, ih]
theorem cntUp_le : ∀ l : List Step, cntUp l ≤ l.length
  | [] => Nat.le_refl _
  | s :: r => by
    have ih := cntUp_le r
    cases s <;> simp [cntUp] <;> omega
theorem namesS_le : ∀ l : List Step, (namesS l).length ≤ l.length
  | [] => Nat.le_refl _
  | s :: r => by
    have ih := namesS_le r
    cases s <;> simp [namesS] <;> omega
theorem cntUp_told (r : Bool) (u : Nat) (ns : Place) : cntUp (toldSteps r u ns) = u := by
  have h1 : ∀ u, cntUp (List.replicate u .up) = u := fun u => by
    induction u with
    | zero => rfl
    | succ u ih => rw [List.replicate_succ, cntUp, ih]
  have h2 : ∀ ns : Place, cntUp (ns.map .name) = 0 := fun ns => by
    induction ns with
    | nil => rfl
    | cons n r ih => rw [List.map_cons, cntUp, ih]
  unfold toldSteps
  rw [cntUp_app, cntUp_app, h1, h2]
  cases r <;> simp [cntUp]
theorem namesS_told (r : Bool) (u : Nat) (ns : Place) : namesS (toldSteps r u ns) = ns := by
  have h1 : ∀ u, namesS (List.replicate u .up) = [] := fun u => by
    induction u with
    | zero => rfl
    | succ u ih => rw [List.replicate_succ, namesS, ih]
  have h2 : ∀ ns : Place, namesS (ns.map .name) = ns := fun ns => by
    induction ns with
    | nil => rfl
    | cons n r ih => rw [List.map_cons, namesS, ih]
  unfold toldSteps
  rw [namesS_app, namesS_app, h1, h2]
  cases r <;> simp [namesS]
section
variable {K : PySem.W.Frag} {C : Ad} {H : Hp} {Q : VK} {E : XK}
def sp_p_shared (K : PySem.W.Frag) (C : Ad) : Sp := fun vs H Q _ => ∃ (p q : Addr) (x y : Place), vs = [.ref p, .ref q] ∧ SqL K H p (x.map vS) ∧ SqL K H q (y.map vS) ∧ ∀ H', Same H H' → Q (.int (shN x y : Nat)) H'
theorem i_p_shared {p q : Addr} {x y : Place} (h1 : SqL K H p (x.map vS)) (h2 : SqL K H q (y.map vS)) (k : ∀ H', Same H H' → Q (.int (shN x y : Nat)) H') : sp_p_shared K C [.ref p, .ref q] H Q E := ⟨p, q, x, y, rfl, h1, h2, k⟩
def sp_p_told (K : PySem.W.Frag) (C : Ad) : Sp := fun vs H Q _ => ∃ (r : Bool) (u : Nat) (p : Addr) (ns : Place), vs = [.bl r, .int (u : Int), .ref p] ∧ SqL K H p (ns.map vS) ∧ AllNm ns ∧ u + ns.length ≤ 6000 ∧ ∀ H', Same H H' → Q (vS (toldL r u ns)) H'
theorem i_p_told {r : Bool} {u : Nat} {z : Int} {p : Addr} {ns : Place} (e : z = (u : Int)) (h : SqL K H p (ns.map vS)) (hn : AllNm ns) (hl : u + ns.length ≤ 6000) (q : ∀ H', Same H H' → Q (vS (toldL r u ns)) H') : sp_p_told K C [.bl r, .int z, .ref p] H Q E := ⟨r, u, p, ns, by rw [e], h, hn, hl, q⟩
def sp_p_way (K : PySem.W.Frag) (C : Ad) : Sp := fun vs H Q _ => ∃ (p q : Addr) (x y : Place), vs = [.ref p, .ref q] ∧ SqL K H p (x.map vS) ∧ SqL K H q (y.map vS) ∧ AllNm y ∧ x.length + y.length ≤ 6000 ∧ ∀ H', Same H H' → Q (vS (toldL false (x.length - shN x y) (y.drop (shN x y)))) H'
theorem i_p_way {p q : Addr} {x y : Place} (h1 : SqL K H p (x.map vS)) (h2 : SqL K H q (y.map vS)) (hn : AllNm y) (hl : x.length + y.length ≤ 6000) (k : ∀ H', Same H H' → Q (vS (toldL false (x.length - shN x y) (y.drop (shN x y)))) H') : sp_p_way K C [.ref p, .ref q] H Q E := ⟨p, q, x, y, rfl, h1, h2, hn, hl, k⟩
def sp_l_plain_steps (K : PySem.W.Frag) (C : Ad) : Sp := fun vs H Q _ => ∃ (r : Bool) (u : Nat) (ns : Place), vs = [vS (toldL r u ns)] ∧ AllNm ns ∧ u + ns.length ≤ 6000 ∧ ∀ p H', Same H H' → H p = none → Steps K H' p (toldSteps r u ns) → Q (.ref p) H'
theorem i_l_plain_steps {r : Bool} {u : Nat} {ns : Place} (hn : AllNm ns) (hl : u + ns.length ≤ 6000) (q : ∀ p H', Same H H' → H p = none → Steps K H' p (toldSteps r u ns) → Q (.ref p) H') : sp_l_plain_steps K C [vS (toldL r u ns)] H Q E := ⟨r, u, ns, rfl, hn, hl, q⟩
def sp_l_as_told (K : PySem.W.Frag) (C : Ad) : Sp := fun vs H Q _ => ∃ (r : Bool) (u : Nat) (ns : Place) (p : Addr), vs = [vS (toldL r u ns), .ref p] ∧ Steps K H p (toldSteps r u ns) ∧ AllNm ns ∧ u + ns.length ≤ 6000 ∧ (r = true → u = 0) ∧ ∀ H', Same H H' → Q (.bl true) H'
theorem i_l_as_told {r : Bool} {u : Nat} {ns : Place} {p : Addr} (h : Steps K H p (toldSteps r u ns)) (hn : AllNm ns) (hl : u + ns.length ≤ 6000) (hr : r = true → u = 0) (q : ∀ H', Same H H' → Q (.bl true) H') : sp_l_as_told K C [vS (toldL r u ns), .ref p] H Q E := ⟨r, u, ns, p, rfl, h, hn, hl, hr, q⟩
theorem i_zip {ta : TA} {σ : L2.St} {R : It → Hp → Prop} (h : ta σ H fun vs H1 => ∃ a b xs ys, vs = [.ref a, .ref b] ∧ SqL K H1 a xs ∧ SqL K H1 b ys ∧ R (Itz K a b) H1) : iZip K ta σ H R := h
end
end Pw

namespace Pw
open PySem PySem.Spec PyProof.Rows L2
def t_l_of (K : PySem.W.Frag) (C : Ad) (E : XK) : TS :=
  tRet (tOp (qIxL K) (tOp rCat (tSl (qSlL K) (tVar 0) (tPart (tVar 1)) (tPart (tOp qAdd (tVar 1) (tC (.int 1))))) (tLst (tCons (tC (.int 0)) (tNil)))) (tC (.int 0)))
def t_l_signs (K : PySem.W.Frag) (C : Ad) (E : XK) : TS :=
  tSeq (tAsg (tOp qAddS (tOp qAddS (tC (vS [32, 33, 34, 35, 36, 38, 39, 40, 41, 42, 43, 44, 45, 46, 47])) (tC (vS [48, 49, 50, 51, 52, 53, 54, 55, 56, 57]))) (tC (vS [58, 59, 60, 61, 62, 63, 64]))) (gName 0))
  (tSeq (tAsg (tOp qAddS (tOp qAddS (tVar 0) (tC (vS [65, 66, 67, 68, 69, 70, 71, 72, 73, 74, 75, 76, 77, 78, 79, 80, 81, 82, 83, 84, 85, 86, 87, 88, 89, 90]))) (tC (vS [91, 92, 93, 94, 95, 96]))) (gName 0))
  (tRet (tOp qAddS (tOp qAddS (tVar 0) (tC (vS [97, 98, 99, 100, 101, 102, 103, 104, 105, 106, 107, 108, 109, 110, 111, 112, 113, 114, 115, 116, 117, 118, 119, 120, 121, 122]))) (tC (vS [123, 124, 125, 126])))))
def t_l_name_by (K : PySem.W.Frag) (C : Ad) (E : XK) : TS :=
  tSeq (tAsg (tLst (tCons (tC (vS [46])) (tCons (tC (vS [46, 46])) (tCons (tC (vS [126])) (tCons (tC (vS [47])) (tCons (tC (vS [64])) (tCons (tC (vS [64, 97])) (tCons (tC (vS [97])) (tCons (tC (vS [98])) (tCons (tC (vS [46, 46, 46])) (tCons (tC (vS [46, 97])) (tCons (tC (vS [126, 49, 51])) (tCons (tC (vS [97, 47, 98])) (tCons (tC (vS [32])) (tCons (tC (vS [46, 46, 97])) (tNil)))))))))))))))) (gName 1))
  (tSeq (tIfS (tTest (tOp qEqI (tOp qMod (tVar 0) (tC (.int 3))) (tC (.int 0)))) (tRet (tOp (qIxL K) (tVar 1) (tOp qMod (tOp qDiv (tVar 0) (tC (.int 3))) (tC (.int 14))))) (tNext))
  (tSeq (tAsg (tOp qAdd (tC (.int 1)) (tOp qMod (tOp qDiv (tVar 0) (tC (.int 3))) (tC (.int 4)))) (gName 2))
  (C8.tCut (tIfS (tTest (tOp qEqI (tOp qMod (tOp qDiv (tVar 0) (tC (.int 12))) (tC (.int 9))) (tC (.int 4)))) (tAsg (tOp qAdd (tVar 2) (tOp qMod (tOp qDiv (tVar 0) (tC (.int 108))) (tC (.int 40)))) (gName 2)) (tNext))
  (tSeq (tAsg (tC (vS [])) (gName 3))
  (tSeq (tFor (iRng1 (tCons (tVar 2) (tNil))) (gName 4) (tAsg (tOp qAddS (tVar 3) (tOp qIxS (tCallS (sp_l_signs K C) (fun _ => E0) tNil) (tOp qMod (tOp qDiv (tOp qMod (tOp qMulR (tOp qAdd (tOp qDiv (tVar 0) (tC (.int 12))) (tOp qMulL (tC (.int 7)) (tVar 4))) (tC (.int 48271))) (tC (.int 65537))) (tC (.int 5))) (tC (.int 94))))) (gName 3)))
  (tRet (tVar 3)))))))
def t_l_place_by (K : PySem.W.Frag) (C : Ad) (E : XK) : TS :=
  tRet (tLc (iList K (tVar 0)) (gName 1) (tYes) (tCallS (sp_l_name_by K C) (fun _ => E0) (tCons (tVar 1) (tNil))) [1])
def t_p_shared (K : PySem.W.Frag) (C : Ad) (E : XK) : TS :=
  tSeq (tAsg (tC (.int 0)) (gName 2))
  (tSeq (tFor (iZip K (tCons (tVar 0) (tCons (tVar 1) (tNil)))) (gTup K 2 (gCons (gName 3) (gCons (gName 4) (gNil)))) (tSeq (tIfS (tTest (tOp qNeS (tVar 3) (tVar 4))) (tRet (tVar 2)) (tNext))
  (tAsg (tOp qAdd (tVar 2) (tC (.int 1))) (gName 2))))
  (tRet (tVar 2)))
def t_p_escaped (K : PySem.W.Frag) (C : Ad) (E : XK) : TS :=
  tRet (tOp qAddS (tC (vS [126])) (tBM K "str" qZf2 (tCB qStrN (tCons (tBM K "str" qIxSigns (tC (vS signs)) (tCons (tVar 0) (tNil))) (tNil))) (tCons (tC (.int 2)) (tNil))))
def t_p_written (K : PySem.W.Frag) (C : Ad) (E : XK) : TS :=
  tSeq (tAsg (tC (vS [])) (gName 1))
  (tSeq (tFor (iEnumS (tCons (tVar 0) (tNil))) (gTup K 2 (gCons (gName 2) (gCons (gName 3) (gNil)))) (tSeq (tAsg (tAndV (tOp qEqI (tVar 2) (tC (.int 0))) (tOrV (tOp qEqS (tVar 3) (tC (vS [64]))) (tOrV (tOp qEqS (tVar 0) (tC (vS [46]))) (tOp qEqS (tVar 0) (tC (vS [46, 46])))))) (gName 4))
  (tIfS (tOr (tTest (tOp qEqS (tVar 3) (tC (vS [47])))) (tOr (tTest (tOp qEqS (tVar 3) (tC (vS [126])))) (tB (tVar 4)))) (tAsg (tOp qAddS (tVar 1) (tCallS (sp_p_escaped K C) (fun _ => E0) (tCons (tVar 3) (tNil)))) (gName 1)) (tAsg (tOp qAddS (tVar 1) (tVar 3)) (gName 1)))))
  (tRet (tVar 1)))
def t_p_told (K : PySem.W.Frag) (C : Ad) (E : XK) : TS :=
  tSeq (tAsg (tOp rCat (tOp rRep (tLst (tCons (tC (vS [46, 46])) (tNil))) (tVar 1)) (tLc (iList K (tVar 2)) (gName 4) (tYes) (tCallS (sp_p_written K C) (fun _ => E0) (tCons (tVar 4) (tNil))) [4])) (gName 3))
  (tSeq (tIfS (tB (tVar 0)) (tRet (tOp qAddS (tC (vS [47])) (tBM K "str" (qJoin K) (tC (vS [47])) (tCons (tVar 3) (tNil))))) (tNext))
  (tSeq (tIfS (tTest (tOp qEqI (tCB (qLenL K) (tCons (tVar 3) (tNil))) (tC (.int 0)))) (tRet (tC (vS [46]))) (tNext))
  (tRet (tBM K "str" (qJoin K) (tC (vS [47])) (tCons (tVar 3) (tNil))))))
def t_p_way (K : PySem.W.Frag) (C : Ad) (E : XK) : TS :=
  tSeq (tAsg (tCallS (sp_p_shared K C) (fun _ => E0) (tCons (tVar 0) (tCons (tVar 1) (tNil)))) (gName 2))
  (tRet (tCallS (sp_p_told K C) (fun _ => E0) (tCons (tC (.bl false)) (tCons (tOp qSub (tCB (qLenL K) (tCons (tVar 0) (tNil))) (tVar 2)) (tCons (tSl (qSlL K) (tVar 1) (tPart (tVar 2)) tNoPart) (tNil))))))
def t_l_read (K : PySem.W.Frag) (C : Ad) (E : XK) : TS :=
  tSeq (tAsg (tC (vS [])) (gName 1))
  (tSeq (tAsg (tC (.int 0)) (gName 2))
  (tSeq (tWhile (tTest (tOp qLt (tVar 2) (tCB qLenS (tCons (tVar 0) (tNil))))) (tIfS (tTest (tOp qNeS (tOp qIxS (tVar 0) (tVar 2)) (tC (vS [126])))) (tSeq (tAsg (tOp qAddS (tVar 1) (tOp qIxS (tVar 0) (tVar 2))) (gName 1))
  (tAsg (tOp qAdd (tVar 2) (tC (.int 1))) (gName 2))) (tSeq (tAsg (tSl qSlS (tVar 0) (tPart (tOp qAdd (tVar 2) (tC (.int 1)))) (tPart (tOp qAdd (tVar 2) (tC (.int 3))))) (gName 3))
  (tSeq (tIfS (tOr (tTest (tOp qLt (tCB qLenS (tCons (tVar 3) (tNil))) (tC (.int 2)))) (tOr (tTest (tOp qNiS (tOp qIxS (tVar 3) (tC (.int 0))) (tC (vS [48, 49, 50, 51, 52, 53, 54, 55, 56, 57])))) (tTest (tOp qNiS (tOp qIxS (tVar 3) (tC (.int 1))) (tC (vS [48, 49, 50, 51, 52, 53, 54, 55, 56, 57])))))) (tRet (tC .non)) (tNext))
  (tSeq (tIfS (tTest (tOp qGt (tCB qInt2 (tCons (tVar 3) (tNil))) (tC (.int 93)))) (tRet (tC .non)) (tNext))
  (tSeq (tAsg (tOp qAddS (tVar 1) (tOp qIxS (tCallS (sp_l_signs K C) (fun _ => E0) tNil) (tCB qInt2 (tCons (tVar 3) (tNil))))) (gName 1))
  (tAsg (tOp qAdd (tVar 2) (tC (.int 3))) (gName 2))))))))
  (tRet (tVar 1))))
def t_l_plain_steps (K : PySem.W.Frag) (C : Ad) (E : XK) : TS :=
  tSeq (tAsg (tLst (tNil)) (gName 1))
  (C8.tCut (tIfS (tTest (tOp qEqS (tSl qSlS (tVar 0) tNoPart (tPart (tC (.int 1)))) (tC (vS [47])))) (tDrop (tBM K "list" rAppend (tVar 1) (tCons (tTup (tCons (tC (vS [114, 111, 111, 116])) (tNil))) (tNil)))) (tNext))
  (tSeq (tIfS (tOr (tTest (tOp qEqS (tVar 0) (tC (vS [47])))) (tTest (tOp qEqS (tVar 0) (tC (vS [46]))))) (tRet (tVar 1)) (tNext))
  (tSeq (tFor (iList K (tBM K "str" qSplit (tSl qSlS (tVar 0) (tPart (tCB (qLenL K) (tCons (tVar 1) (tNil)))) tNoPart) (tCons (tC (vS [47])) (tNil)))) (gName 2) (tIfS (tTest (tOp qEqS (tVar 2) (tC (vS [46, 46])))) (tDrop (tBM K "list" rAppend (tVar 1) (tCons (tTup (tCons (tC (vS [117, 112])) (tNil))) (tNil)))) (tSeq (tAsg (tCallS (sp_l_read K C) (fun _ => E0) (tCons (tVar 2) (tNil))) (gName 3))
  (tSeq (tIfS (tOr (tTest (tOp qIsN (tVar 3) (tC .non))) (tOr (tTest (tOp qEqS (tVar 3) (tC (vS [])))) (tOr (tTest (tOp qEqS (tVar 2) (tC (vS [46])))) (tTest (tOp qEqS (tOp qIxS (tVar 2) (tC (.int 0))) (tC (vS [64]))))))) (tRet (tC .non)) (tNext))
  (tDrop (tBM K "list" rAppend (tVar 1) (tCons (tTup (tCons (tC (vS [110, 97, 109, 101])) (tCons (tVar 3) (tNil)))) (tNil))))))))
  (tRet (tVar 1)))))
def t_l_cells (K : PySem.W.Frag) (C : Ad) (E : XK) : TS :=
  tSeq (tIfS (tB (tVar 3)) (tRet (tLc (iRng1 (tCons (tC (.int 60)) (tNil))) (gName 4) (tYes) (tOp qAdd (tCallS (sp_l_of K C) (fun _ => E0) (tCons (tVar 0) (tCons (tVar 1) (tNil)))) (tOp qMulL (tOp qMulL (tC (.int 13)) (tVar 4)) (tVar 4))) [4])) (tNext))
  (tRet (tLc (iRng1 (tCons (tVar 2) (tNil))) (gName 4) (tYes) (tCallS (sp_l_of K C) (fun _ => E0) (tCons (tVar 0) (tCons (tOp qAdd (tVar 1) (tVar 4)) (tNil)))) [4]))
def t_l_must (K : PySem.W.Frag) (C : Ad) (E : XK) : TS :=
  tSeq (tIfS (tOr (tTest (tOp qEqS (tOp qIxS (tVar 0) (tVar 1)) (tC (vS [47])))) (tTest (tOp qEqS (tOp qIxS (tVar 0) (tVar 1)) (tC (vS [126]))))) (tRet (tC (.bl true))) (tNext))
  (tRet (tAndV (tOp qEqI (tVar 1) (tC (.int 0))) (tOrV (tOp qEqS (tOp qIxS (tVar 0) (tC (.int 0))) (tC (vS [64]))) (tOrV (tOp qEqS (tVar 0) (tC (vS [46]))) (tOp qEqS (tVar 0) (tC (vS [46, 46])))))))
def t_l_escape (K : PySem.W.Frag) (C : Ad) (E : XK) : TS :=
  tSeq (tAsg (tBM K "str" qIxSigns (tCallS (sp_l_signs K C) (fun _ => E0) tNil) (tCons (tVar 0) (tNil))) (gName 1))
  (tRet (tOp qAddS (tOp qAddS (tC (vS [126])) (tCB qStrD (tCons (tOp qDiv (tVar 1) (tC (.int 10))) (tNil)))) (tCB qStrD (tCons (tOp qMod (tVar 1) (tC (.int 10))) (tNil)))))
def t_l_due_part (K : PySem.W.Frag) (C : Ad) (E : XK) : TS :=
  tSeq (tAsg (tC (vS [])) (gName 1))
  (tSeq (tFor (iRng1 (tCons (tCB qLenS (tCons (tVar 0) (tNil))) (tNil))) (gName 2) (tIfS (tB (tCallS (sp_l_must K C) (fun _ => E0) (tCons (tVar 0) (tCons (tVar 2) (tNil))))) (tAsg (tOp qAddS (tVar 1) (tCallS (sp_l_escape K C) (fun _ => E0) (tCons (tOp qIxS (tVar 0) (tVar 2)) (tNil)))) (gName 1)) (tAsg (tOp qAddS (tVar 1) (tOp qIxS (tVar 0) (tVar 2))) (gName 1))))
  (tRet (tVar 1)))
def t_l_as_told (K : PySem.W.Frag) (C : Ad) (E : XK) : TS :=
  tSeq (tAsg (tCB (qLenL K) (tCons (tLc (iList K (tVar 1)) (gName 5) (tTest (tOp qEqS (tOp (qIxT K) (tVar 5) (tC (.int 0))) (tC (vS [117, 112])))) (tVar 5) [5]) (tNil))) (gName 2))
  (tSeq (tAsg (tLc (iList K (tVar 1)) (gName 5) (tTest (tOp qEqS (tOp (qIxT K) (tVar 5) (tC (.int 0))) (tC (vS [110, 97, 109, 101])))) (tOp (qIxT K) (tVar 5) (tC (.int 1))) [5]) (gName 3))
  (tSeq (tAsg (tOp rCat (tOp rRep (tLst (tCons (tC (vS [46, 46])) (tNil))) (tVar 2)) (tLc (iList K (tVar 3)) (gName 6) (tYes) (tCallS (sp_l_due_part K C) (fun _ => E0) (tCons (tVar 6) (tNil))) [6])) (gName 4))
  (tSeq (tIfS (tTest (tOp qEqS (tSl qSlS (tVar 0) tNoPart (tPart (tC (.int 1)))) (tC (vS [47])))) (tRet (tAndV (tOp qEqI (tVar 2) (tC (.int 0))) (tOp qEqS (tVar 0) (tOp qAddS (tC (vS [47])) (tBM K "str" (qJoin K) (tC (vS [47])) (tCons (tVar 4) (tNil))))))) (tNext))
  (tRet (tOp qEqS (tVar 0) (tOp qAddS (tBM K "str" (qJoin K) (tC (vS [47])) (tCons (tVar 4) (tNil))) (tOp qMulS (tC (vS [46])) (tCB qIntB (tCons (tOp qEqI (tCB (qLenL K) (tCons (tVar 4) (tNil))) (tC (.int 0))) (tNil))))))))))
def t_l_walk (K : PySem.W.Frag) (C : Ad) (E : XK) : TS :=
  tSeq (tAsg (tCB (qListL K) (tCons (tVar 0) (tNil))) (gName 0))
  (tSeq (tFor (iList K (tVar 1)) (gName 3) (tIfS (tTest (tOp qEqS (tOp (qIxT K) (tVar 3) (tC (.int 0))) (tC (vS [114, 111, 111, 116])))) (tAsg (tLst (tNil)) (gName 0)) (tIfS (tTest (tOp qEqS (tOp (qIxT K) (tVar 3) (tC (.int 0))) (tC (vS [117, 112])))) (tAsg (tSl (qSlL K) (tVar 0) tNoPart (tPart (tUn qNeg (tC (.int 1))))) (gName 0)) (tIfS (tTest (tOp qEqS (tOp (qIxT K) (tVar 3) (tC (.int 0))) (tC (vS [115, 104, 97, 114, 101])))) (tAsg (tCB (qListL K) (tCons (tDGet (tVar 2) (tOp (qIxT K) (tVar 3) (tC (.int 1)))) (tNil))) (gName 0)) (tAsg (tOp rCat (tVar 0) (tLst (tCons (tOp (qIxT K) (tVar 3) (tC (.int 1))) (tNil)))) (gName 0))))))
  (tRet (tVar 0)))
def t_law_k09 (K : PySem.W.Frag) (C : Ad) (E : XK) : TS :=
  tSeq (tAsg (tCallS (sp_l_of K C) (fun _ => E0) (tCons (tVar 0) (tCons (tC (.int 0)) (tNil)))) (gName 1))
  (tSeq (tAsg (tCallS (sp_l_place_by K C) (fun _ => E0) (tCons (tCallS (sp_l_cells K C) (fun _ => E0) (tCons (tVar 0) (tCons (tC (.int 2)) (tCons (tOp qMod (tVar 1) (tC (.int 6))) (tCons (tOp qEqI (tOp qMod (tOp qDiv (tVar 1) (tC (.int 6))) (tC (.int 8))) (tC (.int 1))) (tNil)))))) (tNil))) (gName 2))
  (tSeq (tAsg (tCallS (sp_l_of K C) (fun _ => E0) (tCons (tVar 0) (tCons (tC (.int 1)) (tNil)))) (gName 3))
  (tSeq (tAsg (tOp rCat (tVar 2) (tCallS (sp_l_place_by K C) (fun _ => E0) (tCons (tLc (iRng1 (tCons (tOp qMod (tVar 3) (tC (.int 5))) (tNil))) (gName 10) (tYes) (tCallS (sp_l_of K C) (fun _ => E0) (tCons (tVar 0) (tCons (tOp qAdd (tC (.int 8)) (tVar 10)) (tNil)))) [10]) (tNil)))) (gName 4))
  (tSeq (tAsg (tOp rCat (tVar 2) (tCallS (sp_l_place_by K C) (fun _ => E0) (tCons (tLc (iRng1 (tCons (tOp qMod (tOp qDiv (tVar 3) (tC (.int 5))) (tC (.int 5))) (tNil))) (gName 10) (tYes) (tCallS (sp_l_of K C) (fun _ => E0) (tCons (tVar 0) (tCons (tOp qAdd (tC (.int 13)) (tVar 10)) (tNil)))) [10]) (tNil)))) (gName 5))
  (C8.tCut (tIfS (tTest (tOp qEqI (tOp qMod (tOp qDiv (tVar 3) (tC (.int 25))) (tC (.int 8))) (tC (.int 1)))) (tAsg (tOp rCat (tVar 4) (tCallS (sp_l_place_by K C) (fun _ => E0) (tCons (tCallS (sp_l_cells K C) (fun _ => E0) (tCons (tVar 0) (tCons (tC (.int 8)) (tCons (tC (.int 0)) (tCons (tC (.bl true)) (tNil)))))) (tNil)))) (gName 4)) (tNext))
  (C8.tCut (tIfS (tTest (tOp qEqI (tOp qMod (tOp qDiv (tVar 3) (tC (.int 25))) (tC (.int 8))) (tC (.int 2)))) (tAsg (tOp rCat (tVar 5) (tCallS (sp_l_place_by K C) (fun _ => E0) (tCons (tCallS (sp_l_cells K C) (fun _ => E0) (tCons (tVar 0) (tCons (tC (.int 13)) (tCons (tC (.int 0)) (tCons (tC (.bl true)) (tNil)))))) (tNil)))) (gName 5)) (tNext))
  (tSeq (tAsg (tLst (tCons (tCB (qListL K) (tCons (tVar 4) (tNil))) (tCons (tCB (qListL K) (tCons (tVar 5) (tNil))) (tNil)))) (gName 6))
  (tSeq (tAsg (tCallS (sp_p_way K C) (fun _ => E0) (tCons (tOp (qIxL K) (tVar 6) (tC (.int 0))) (tCons (tOp (qIxL K) (tVar 6) (tC (.int 1))) (tNil)))) (gName 7))
  (tSeq (tIfS (tOr (tNot (tB (tCB (rIsi K) (tCons (tVar 7) (tCons (tC (.ty "str")) (tNil)))))) (tTest (tOp (rNeD K) (tVar 6) (tLst (tCons (tVar 4) (tCons (tVar 5) (tNil))))))) (tRet (tC (.bl false))) (tNext))
  (tSeq (tIfS (tTest (tOp (rEqD K) (tVar 4) (tVar 5))) (tRet (tOp qEqS (tVar 7) (tC (vS [46])))) (tNext))
  (tSeq (tAsg (tCallS (sp_l_plain_steps K C) (fun _ => E0) (tCons (tVar 7) (tNil))) (gName 8))
  (tSeq (tIfS (tOr (tTest (tOp qIsN (tVar 8) (tC .non))) (tOr (tTest (tOp qEqS (tSl qSlS (tVar 7) tNoPart (tPart (tC (.int 1)))) (tC (vS [47])))) (tTest (tOp (rNeD K) (tCallS (sp_l_walk K C) (fun _ => E0) (tCons (tVar 4) (tCons (tVar 8) (tCons (tDNewK) (tNil))))) (tVar 5))))) (tRet (tC (.bl false))) (tNext))
  (tSeq (tIfS (tNot (tB (tCallS (sp_l_as_told K C) (fun _ => E0) (tCons (tVar 7) (tCons (tVar 8) (tNil)))))) (tRet (tC (.bl false))) (tNext))
  (tSeq (tAsg (tC (.int 0)) (gName 9))
  (tSeq (tWhile (tAnd (tTest (tOp qLt (tVar 9) (tCB qMin (tCons (tCB (qLenL K) (tCons (tVar 4) (tNil))) (tCons (tCB (qLenL K) (tCons (tVar 5) (tNil))) (tNil)))))) (tTest (tOp qEqS (tOp (qIxL K) (tVar 4) (tVar 9)) (tOp (qIxL K) (tVar 5) (tVar 9))))) (tAsg (tOp qAdd (tVar 9) (tC (.int 1))) (gName 9)))
  (tRet (tOp qEqI (tCB (qLenL K) (tCons (tVar 8) (tNil))) (tOp qSub (tOp qAdd (tOp qSub (tCB (qLenL K) (tCons (tVar 4) (tNil))) (tVar 9)) (tCB (qLenL K) (tCons (tVar 5) (tNil)))) (tVar 9)))))))))))))))))))
end Pw
namespace Pw
open PySem PySem.Spec PyProof.Rows L2
local macro_rules | `(tactic| walk_at "sz") => `(tactic| first | omega | (simp only [List.length_append, List.length_cons, List.length_nil, List.length_map, List.length_take, List.length_drop, List.length_replicate]; omega) | decide)
local macro_rules | `(tactic| walk_at "g1") => `(tactic| first
  | with_reducible refine' i_seq ?_
  | with_reducible refine' i_asg ?_
  | with_reducible refine' i_name ?_
  | with_reducible refine' i_c ?_
  | ((with_reducible refine' i_var ?vh ?_); (case vh => exact rfl))
  | with_reducible refine' i_op ?_
  | with_reducible refine' i_un ?_
  | with_reducible refine' i_call ?_
  | with_reducible refine' i_cons ?_
  | with_reducible refine' i_nil ?_
  | with_reducible refine' i_cb ?_
  | with_reducible refine' i_test ?_
  | with_reducible refine' i_tB ?_
  | with_reducible refine' i_bl ?_
  | with_reducible refine' i_int ?_
  | with_reducible refine' i_ret ?_
  | with_reducible refine' i_drop ?_
  | with_reducible refine' i_if ?_
  | with_reducible refine' i_next ?_
  | with_reducible refine' i_and ?_
  | with_reducible refine' i_or ?_
  | with_reducible refine' i_not ?_
  | with_reducible refine' i_andV ?_
  | with_reducible refine' i_orV ?_
  | with_reducible refine' i_notV ?_
  | with_reducible refine' i_ifE ?_
  | with_reducible refine' i_sl ?_
  | with_reducible refine' i_nopart ?_
  | with_reducible refine' i_part ?_
  | with_reducible refine' i_bm ?_
  | with_reducible refine' i_tyS ?_
  | with_reducible refine' i_tup ?_
  | with_reducible refine' i_lst ?_
  | with_reducible refine' i_for ?_
  | with_reducible refine' i_rng1 ?_
  | with_reducible refine' i_list ?_
  | with_reducible refine' i_enumS ?_
  | with_reducible refine' i_add ?_
  | with_reducible refine' i_sub ?_
  | with_reducible refine' i_lt ?_
  | with_reducible refine' i_le ?_
  | with_reducible refine' i_gt ?_
  | with_reducible refine' i_ge ?_
  | with_reducible refine' i_neg ?_
  | with_reducible refine' i_eqI ?_
  | with_reducible refine' i_neI ?_
  | with_reducible refine' i_eqS ?_
  | with_reducible refine' i_neS ?_
  | with_reducible refine' i_isN ?_
  | with_reducible refine' i_notN ?_
  | with_reducible refine' i_inS ?_
  | with_reducible refine' i_niS ?_
  | ((with_reducible refine' i_addS ?zz ?_); (case zz => walk_at "sz"))
  | ((with_reducible refine' i_div ?zz ?_); (case zz => walk_at "sz"))
  | ((with_reducible refine' i_mod ?zz ?_); (case zz => walk_at "sz"))
  | ((with_reducible refine' i_mulL ?zz ?_); (case zz => walk_at "sz"))
  | ((with_reducible refine' i_mulR ?zz ?_); (case zz => walk_at "sz"))
  | ((with_reducible refine' i_lenS ?zz ?_); (case zz => walk_at "sz"))
  | ((with_reducible refine' i_slS ?zz ?_); (case zz => walk_at "sz"))
  | ((with_reducible refine' i_slL ?zz ?_); (case zz => assumption))
  | ((with_reducible refine' i_lenL ?zz ?_); (case zz => assumption))
  | ((with_reducible refine' i_listL ?zz ?_); (case zz => assumption))
  | with_reducible refine' iteT ?_
  | with_reducible refine' iteF ?_
  | with_reducible refine' iteNT ?_
  | with_reducible refine' iteNF ?_
  | with_reducible refine' iteNR ?_
  | with_reducible refine' i_raise ?_
  | ((with_reducible refine' i_strD' ?zz ?_); (case zz => walk_at "sz"))
  | ((with_reducible refine' i_strN' ?zz ?_); (case zz => walk_at "sz"))
  | with_reducible refine' i_lc ?_
  | ((with_reducible refine' i_rng ?zz ?_); (case zz => walk_at "sz"))
  | with_reducible refine' i_intB ?_
  | with_reducible refine' i_isStr ?_
  | with_reducible refine' i_l_signs ?_
  | with_reducible refine' i_itup ?_
  | with_reducible refine' i_dget ?_
  | with_reducible refine' i_met ?_
  | with_reducible refine' i_din ?_
  | with_reducible refine' i_dnin ?_
  | with_reducible refine' i_dput ?_
  | with_reducible refine' i_dnew ?_
  | with_reducible refine' i_fld ?_
  | with_reducible refine' i_sfld ?_
  | ((with_reducible refine' i_ixT (i := 0) ?ze ?zt ?zr ?_); (case ze => exact rfl); (case zt => assumption); (case zr => exact rfl))
  | ((with_reducible refine' i_ixT (i := 1) ?ze ?zt ?zr ?_); (case ze => exact rfl); (case zt => assumption); (case zr => exact rfl))
  | ((with_reducible refine' iteLF ?zz ?_); (case zz => decide))
  | ((with_reducible refine' iteLT ?zz ?_); (case zz => decide))
  | ((with_reducible refine' i_mk ?zz ?_); (case zz => first | decide | (simp; done) | (simp; omega)))
  | ((with_reducible refine' i_l_of' ?zz ?hs ?_); (case zz => omega); (case hs => assumption)))
local macro_rules | `(tactic| walk_at "go") => `(tactic| repeat walk_at "g1")
local macro_rules | `(tactic| walk_at "upto") => `(tactic| repeat ((fail_if_success (with_reducible refine' i_if ?_)); walk_at "g1"))



section
variable {K : PySem.W.Frag} {C : Ad} {vs : List V} {H : Hp} {Q : VK} {E : XK}
theorem rd_l_signs (h : sp_l_signs K C vs H Q E) : t_l_signs K C E (ends Q) (st 1 vs) H := by
  obtain ⟨rfl, q⟩ := h
  unfold t_l_signs
  walk_at "go"
  exact q
theorem rd_l_of (h : sp_l_of K C vs H Q E) : t_l_of K C E (ends (Fgt H Q)) (st 2 vs) (noDT H) := by
  obtain ⟨a, ns, k, rfl, hS, q⟩ := h
  unfold t_l_of
  have hS' := sql_noDT hS
  walk_at "go"
  rw [cutN_one]
  intro p hp
  walk_at "go"
  intro r hr
  walk_at "go"
  refine i_cat (lk upd_same hr) upd_same ?_ fun c hc => ?_
  · rw [List.length_take]
    show min 1 _ + 1 ≤ _
    omega
  · walk_at "go"
    refine i_ixL (i := 0) rfl (SqL.of upd_same) (cellAt_cut ns k) ?_
    exact fgt0 (((same_new hp).trans (same_new hr)).trans (same_new hc)) q
theorem rd_l_read (h : sp_l_read K C vs H Q E) : t_l_read K C E (ends Q) (st 4 vs) H := by
  obtain ⟨l, rfl, hl, q⟩ := h
  unfold t_l_read
  walk_at "go"
  refine ⟨fun m σ H' => ∃ (i : Nat) (f : List Nat) (y : Option V), σ = [some (vS l), some (vS f), some (.int (i : Int)), y] ∧ H' = H ∧ m = l.length - i ∧ i ≤ l.length ∧ f.length ≤ i ∧ nameOf l = (nameOf (l.drop i)).map (f ++ ·),
    ⟨l.length, 0, [], none, rfl, rfl, rfl, Nat.zero_le _, Nat.le_refl _, by simp⟩, ?_⟩
  rintro m σ H' ⟨i, f, y, rfl, rfl, rfl, hi, hf, inv⟩
  walk_at "go"
  refine i_ifD (fun h => ?_) (fun h => ?_)
  · refine ⟨_, fun _ _ h => h, ?_⟩
    have hlt : i < l.length := by omega
    have hc := get_lt hlt
    walk_at "go"
    refine i_ixS (i := i) rfl (by omega) hc ?_
    walk_at "go"
    refine i_ifN (fun h1 => ?_) (fun h1 => ?_)
    · have h2 : l[i] ≠ 126 := fun e => h1 (by rw [e])
      walk_at "go"
      refine i_ixS (i := i) rfl (by omega) hc ?_
      walk_at "go"
      exact ⟨l.length - (i + 1), by omega, i + 1, _, _, rfl, rfl, rfl, by omega, by simp; omega, read_plain hc h2 inv⟩
    · have h2 : l[i] = 126 := by simpa using h1
      rw [h2] at hc
      walk_at "go"
      rw [cut_two]
      generalize hr : (l.drop (i + 1)).take 2 = r
      have hrl : r.length ≤ 2 := by
        rw [← hr, List.length_take]
        omega
      walk_at "go"
      refine i_ifD (fun h3 => ?_) (fun h3 => ?_)
      · walk_at "go"
        have : signOf r = none := by
          cases e : signOf r with
          | none => rfl
          | some s =>
            have := signOf_len e
            omega
        rw [read_escN hc (by rw [hr]; exact this) inv] at q
        exact q
      · obtain ⟨a, b, rfl⟩ : ∃ a b, r = [a, b] := by
          match r, hrl, h3 with
          | [a, b], _, _ => exact ⟨a, b, rfl⟩
          | [], _, h3 => exact absurd (by decide) h3
          | [a], _, h3 => exact absurd (show (([a].length : Nat) : Int) < 2 by simp) h3
          | _ :: _ :: _ :: _, hrl, _ => exact absurd hrl (by simp)
        have hlen : i + 3 ≤ l.length := by
          have := congrArg List.length hr
          rw [List.length_take, List.length_drop] at this
          simp only [List.length_cons, List.length_nil] at this
          omega
        walk_at "go"
        refine i_ixS (i := 0) (c := a) rfl (by simp) rfl ?_
        walk_at "go"
        refine i_ifN (fun h4 => ?_) (fun h4 => ?_)
        · walk_at "go"
          rw [read_escN hc (by rw [hr]; exact signOf_no1 fun z => h4 (mem_figs.mpr z)) inv] at q
          exact q
        · walk_at "go"
          refine i_ixS (i := 1) (c := b) rfl (by simp) rfl ?_
          walk_at "go"
          refine i_ifN (fun h5 => ?_) (fun h5 => ?_)
          · walk_at "go"
            rw [read_escN hc (by rw [hr]; exact signOf_no2 fun z => h5 (mem_figs.mpr z)) inv] at q
            exact q
          · walk_at "go"
            refine i_int2 h4 h5 ?_
            walk_at "go"
            refine i_ifD (fun h6 => ?_) (fun h6 => ?_)
            · walk_at "go"
              rw [read_escN hc (by rw [hr]; exact signOf_no3 (by omega)) inv] at q
              exact q
            · have h7 : 10 * (a - 48) + (b - 48) < 94 := by omega
              have hs := signOf_two (mem_figs.mp h4) (mem_figs.mp h5) h7
              walk_at "go"
              refine i_int2 h4 h5 ?_
              refine i_ixS (i := 10 * (a - 48) + (b - 48)) rfl (by decide) (signs_get h7) ?_
              walk_at "go"
              exact ⟨l.length - (i + 3), by omega, i + 3, _, _, rfl, rfl, rfl, by omega, by simp; omega, read_escS hc (by rw [hr]; exact hs) inv⟩
  · walk_at "go"
    rw [read_end (by omega) inv] at q
    exact q
end




theorem nm_odd : ∀ k < 14, ∀ l, ([[46], [46, 46], [126], [47], [64], [64, 97], [97], [98], [46, 46, 46], [46, 97], [126, 49, 51], [97, 47, 98], [32], [46, 46, 97]] : List (List Nat))[k]? = some l → l.length ≤ 43 ∧ l ≠ [] ∧ ∀ c ∈ l, c ∈ signs := by decide
theorem odd_get {k : Nat} (h : k < 14) : ∃ l, Nm l ∧ [vS [46], vS [46, 46], vS [126], vS [47], vS [64], vS [64, 97], vS [97], vS [98], vS [46, 46, 46], vS [46, 97], vS [126, 49, 51], vS [97, 47, 98], vS [32], vS [46, 46, 97]][k]? = some (vS l) := by
  have hk : k < ([[46], [46, 46], [126], [47], [64], [64, 97], [97], [98], [46, 46, 46], [46, 97], [126, 49, 51], [97, 47, 98], [32], [46, 46, 97]] : List (List Nat)).length := h
  have e := get_lt hk
  obtain ⟨h1, h2, h3⟩ := nm_odd k h _ e
  refine ⟨_, ⟨h3, h2, h1⟩, ?_⟩
  have e2 : [vS [46], vS [46, 46], vS [126], vS [47], vS [64], vS [64, 97], vS [97], vS [98], vS [46, 46, 46], vS [46, 97], vS [126, 49, 51], vS [97, 47, 98], vS [32], vS [46, 46, 97]] = ([[46], [46, 46], [126], [47], [64], [64, 97], [97], [98], [46, 46, 46], [46, 97], [126, 49, 51], [97, 47, 98], [32], [46, 46, 97]] : List (List Nat)).map vS := rfl
  rw [e2, List.getElem?_map, e]
  rfl
theorem named_snoc {l : List Nat} {c : Nat} (h : Named l) (hc : Sign c) : Named (l ++ [c]) := fun x hx => by
  rcases List.mem_append.mp hx with q | q
  · exact h x q
  · rw [List.mem_singleton.mp q]
    exact hc
section
variable {K : PySem.W.Frag} {C : Ad} {vs : List V} {H : Hp} {Q : VK} {E : XK}
theorem rd_l_name_by (h : sp_l_name_by K C vs H Q E) : t_l_name_by K C E (ends (Fgt H Q)) (st 5 vs) (noDT H) := by
  obtain ⟨c, rfl, q⟩ := h
  unfold t_l_name_by
  walk_at "go"
  intro p hp
  walk_at "go"
  refine i_ifD (fun h => ?_) (fun h => ?_)
  · walk_at "go"
    obtain ⟨l, hl, e⟩ := odd_get (k := (c / 3 % 14).toNat) (by omega)
    refine i_ixL (i := (c / 3 % 14).toNat) (by omega) (SqL.of upd_same) e ?_
    exact fgt0 (same_new hp) (q l hl)
  · walk_at "go"
    refine i_cut (fun σ' H' => ∃ n : Nat, σ' = [some (.int c), some (.ref p), some (.int (n : Int)), none, none] ∧ H' = upd (noDT H) p (.lst [vS [46], vS [46, 46], vS [126], vS [47], vS [64], vS [64, 97], vS [97], vS [98], vS [46, 46, 46], vS [46, 97], vS [126, 49, 51], vS [97, 47, 98], vS [32], vS [46, 46, 97]]) ∧ 1 ≤ n ∧ n ≤ 43) ?_ ?_
    · walk_at "go"
      refine i_ifD (fun h1 => ?_) (fun h1 => ?_)
      · walk_at "go"
        refine ⟨(1 + c / 3 % 4 + c / 108 % 40).toNat, ?_, rfl, by omega, by omega⟩
        show [some (V.int c), some (V.ref p), some (V.int (1 + c / 3 % 4 + c / 108 % 40)), none, none] = _
        rw [Int.toNat_of_nonneg (by omega)]
      · walk_at "go"
        refine ⟨(1 + c / 3 % 4).toNat, ?_, rfl, by omega, by omega⟩
        show [some (V.int c), some (V.ref p), some (V.int (1 + c / 3 % 4)), none, none] = _
        rw [Int.toNat_of_nonneg (by omega)]
    · rintro σ' H' ⟨n, rfl, rfl, h1, h2⟩
      walk_at "go"
      rw [Int.toNat_natCast]
      refine for_range (fun i σ H' => ∃ (l : List Nat) (y : Option V), σ = [some (.int c), some (.ref p), some (.int (n : Int)), some (vS l), y] ∧ H' = upd (noDT H) p (.lst [vS [46], vS [46, 46], vS [126], vS [47], vS [64], vS [64, 97], vS [97], vS [98], vS [46, 46, 46], vS [46, 97], vS [126, 49, 51], vS [97, 47, 98], vS [32], vS [46, 46, 97]]) ∧ l.length = i ∧ Named l) ⟨[], none, rfl, rfl, rfl, fun x hx => nomatch hx⟩ ?_ ?_
      · rintro i σ H' hi ⟨l, y, rfl, rfl, hl, hn⟩
        walk_at "go"
        generalize hz : ((c / 12 + 7 * (0 + (i : Int))) * 48271 % 65537 / 5 % 94) = z
        have hz1 : 0 ≤ z ∧ z < 94 := by omega
        refine i_ixS (l := signs) (i := z.toNat) (by omega) (by decide) (signs_get (by omega)) ?_
        walk_at "go"
        exact ⟨_, _, rfl, rfl, by simp [hl], named_snoc hn (signAt_sign (by omega))⟩
      · rintro σ H' ⟨l, y, rfl, rfl, hl, hn⟩
        walk_at "go"
        refine fgt0 (same_new hp) (q l ⟨hn, fun e => ?_, by omega⟩)
        rw [e] at hl
        simp at hl
        omega
theorem rd_p_escaped (h : sp_p_escaped K C vs H Q E) : t_p_escaped K C E (ends Q) (st 1 vs) H := by
  obtain ⟨c, rfl, hc, q⟩ := h
  unfold t_p_escaped
  walk_at "go"
  have := numOf_lt hc
  refine i_ixSigns hc ?_
  walk_at "go"
  rw [Int.toNat_natCast]
  refine i_zf2 (by omega) ?_
  walk_at "go"
  exact q
theorem rd_l_escape (h : sp_l_escape K C vs H Q E) : t_l_escape K C E (ends Q) (st 2 vs) H := by
  obtain ⟨c, rfl, hc, q⟩ := h
  unfold t_l_escape
  walk_at "go"
  have := numOf_lt hc
  refine i_ixSigns hc ?_
  walk_at "go"
  have e1 : ((numOf c : Int) / 10).toNat = numOf c / 10 := by omega
  have e2 : ((numOf c : Int) % 10).toNat = numOf c % 10 := by omega
  rw [e1, e2]
  exact q
theorem rd_l_must (h : sp_l_must K C vs H Q E) : t_l_must K C E (ends Q) (st 2 vs) H := by
  obtain ⟨n, i, c, rfl, hc, hl, q⟩ := h
  unfold t_l_must
  walk_at "go"
  refine i_ixS (i := i) rfl (by omega) hc ?_
  have fin : ∀ b : Bool, b = must n i c → Q (.bl b) H := fun b e => by rw [e]; exact q
  walk_at "go"
  refine i_ifD (fun h1 => ?_) (fun h1 => ?_)
  · have h1' : c = 47 := by simpa using h1
    walk_at "go"
    exact fin _ (by simp [must, h1'])
  have h1' : c ≠ 47 := fun e => h1 (by rw [e])
  walk_at "go"
  refine i_ixS (i := i) rfl (by omega) hc ?_
  walk_at "go"
  refine i_ifD (fun h2 => ?_) (fun h2 => ?_)
  · have h2' : c = 126 := by simpa using h2
    walk_at "go"
    exact fin _ (by simp [must, h2'])
  have h2' : c ≠ 126 := fun e => h2 (by rw [e])
  walk_at "go"
  refine i_ifD (fun h3 => ?_) (fun h3 => ?_)
  · have h3' : i = 0 := by omega
    subst h3'
    walk_at "go"
    refine i_ixS (i := 0) (c := c) rfl (by omega) hc ?_
    walk_at "go"
    refine i_ifD (fun h4 => ?_) (fun h4 => ?_)
    · have h4' : c = 64 := by simpa using h4
      exact fin _ (by simp [must, h4'])
    have h4' : c ≠ 64 := fun e => h4 (by rw [e])
    walk_at "go"
    refine i_ifD (fun h5 => ?_) (fun h5 => ?_)
    · exact fin _ (by simp [must, h5])
    · walk_at "go"
      exact fin _ (by simp [must, h1', h2', h4', h5])
  · have h3' : i ≠ 0 := by omega
    exact fin _ (by simp [must, h1', h2', h3'])
theorem rd_l_due_part (h : sp_l_due_part K C vs H Q E) : t_l_due_part K C E (ends Q) (st 3 vs) H := by
  obtain ⟨n, rfl, hn, hl, q⟩ := h
  unfold t_l_due_part
  walk_at "go"
  rw [Int.toNat_natCast]
  refine for_range (fun i σ H' => ∃ (y : Option V), σ = [some (vS n), some (vS (pieces n 0 (n.take i))), y] ∧ H' = H) ⟨none, rfl, rfl⟩ ?_ ?_
  · rintro i σ H' hi ⟨y, rfl, rfl⟩
    have hc := get_lt hi
    have hp := pieces_take n hc
    have hpl := pieces_len n (n.take i) 0
    have htl : (n.take i).length ≤ n.length := by
      rw [List.length_take]
      omega
    have hsg := hn _ (List.getElem_mem hi)
    rw [Int.zero_add]
    walk_at "go"
    refine i_l_must hc hl ?_
    walk_at "go"
    refine i_ifB (fun hm => ?_) (fun hm => ?_)
    · walk_at "go"
      refine i_ixS (i := i) rfl (by omega) hc ?_
      walk_at "go"
      refine i_l_escape hsg ?_
      refine i_addS (by simp [esc]; omega) ?_
      walk_at "go"
      refine ⟨some (.int (i : Int)), ?_, rfl⟩
      rw [hp, piece, if_pos hm]
      rfl
    · walk_at "go"
      refine i_ixS (i := i) rfl (by omega) hc ?_
      walk_at "go"
      refine ⟨some (.int (i : Int)), ?_, rfl⟩
      rw [hp, piece, if_neg (by simp [hm])]
      rfl
  · rintro σ H' ⟨y, rfl, rfl⟩
    rw [List.take_length]
    walk_at "go"
    exact q
theorem rd_p_written (h : sp_p_written K C vs H Q E) : t_p_written K C E (ends (Fgt H Q)) (st 5 vs) (noDT H) := by
  obtain ⟨n, rfl, hn, hl, q⟩ := h
  unfold t_p_written
  walk_at "go"
  refine ⟨n, rfl, ?_⟩
  refine for_enumS (fun i σ H' => ∃ (y z w : Option V), σ = [some (vS n), some (vS (pieces n 0 (n.take i))), y, z, w] ∧ Same (noDT H) H') ⟨none, none, none, rfl, Same.refl _⟩ ?_ ?_
  · rintro i c σ H1 T hc ⟨y, z, w, rfl, hs⟩ hT
    have hi : i < n.length := (List.getElem?_eq_some_iff.mp hc).1
    have hp := pieces_take n hc
    have hpl := pieces_len n (n.take i) 0
    have htl : (n.take i).length ≤ n.length := by
      rw [List.length_take]
      omega
    have hsg := hn _ (List.mem_of_getElem? hc)
    have hs2 := Same.new (o := .tup [.int (i : Nat), vS [c]]) hs hT
    refine ⟨T, _, rfl, SqT.of upd_same, rfl, ?_⟩
    refine ⟨_, _, rfl, ?_⟩
    walk_at "go"
    refine ⟨_, _, rfl, ?_⟩
    walk_at "go"
    refine ⟨rfl, ?_⟩
    generalize upd H1 T (.tup [.int (i : Nat), vS [c]]) = H2 at *
    have key : ∀ (b : Bool) (D : Ends), (∀ σ H', (∃ (y z w : Option V), σ = [some (vS n), some (vS (pieces n 0 (n.take (i + 1)))), y, z, w] ∧ Same (noDT H) H') → D.nx σ H') → (decide (c = 47) || decide (c = 126) || b) = must n i c → (tIfS (tOr (tTest (tOp qEqS (tVar 3) (tC (vS [47])))) (tOr (tTest (tOp qEqS (tVar 3) (tC (vS [126])))) (tB (tVar 4)))) (tAsg (tOp qAddS (tVar 1) (tCallS (sp_p_escaped K C) (fun _ => E0) (tCons (tVar 3) (tNil)))) (gName 1)) (tAsg (tOp qAddS (tVar 1) (tVar 3)) (gName 1)))
        D [some (vS n), some (vS (pieces n 0 (n.take i))), some (.int (i : Nat)), some (vS [c]), some (.bl b)] H2 := by
      intro b D hD hb
      have yes : must n i c = true → sp_p_escaped K C [vS [c]] H2 (fun x H3 => qAddS (vS (pieces n 0 (n.take i))) x H3 fun x H4 => D.nx [some (vS n), some x, some (.int (i : Nat)), some (vS [c]), some (.bl b)] H4) E0 := fun hm => by
        refine i_p_escaped hsg ?_
        refine i_addS (by simp [esc]; omega) ?_
        refine hD _ _ ⟨some (.int (i : Nat)), some (vS [c]), some (.bl b), ?_, hs2⟩
        rw [hp, piece, if_pos hm]
      have no : must n i c = false → D.nx [some (vS n), some (vS (pieces n 0 (n.take i) ++ [c])), some (.int (i : Nat)), some (vS [c]), some (.bl b)] H2 := fun hm => by
        refine hD _ _ ⟨some (.int (i : Nat)), some (vS [c]), some (.bl b), ?_, hs2⟩
        rw [hp, piece, if_neg (by simp [hm])]
      walk_at "go"
      refine i_ifD (fun h1 => ?_) (fun h1 => ?_)
      · have h1' : c = 47 := by simpa using h1
        walk_at "go"
        exact yes (by simp [must, h1'])
      have h1' : c ≠ 47 := fun e => h1 (by rw [e])
      walk_at "go"
      refine i_ifD (fun h2 => ?_) (fun h2 => ?_)
      · have h2' : c = 126 := by simpa using h2
        walk_at "go"
        exact yes (by simp [must, h2'])
      have h2' : c ≠ 126 := fun e => h2 (by rw [e])
      walk_at "go"
      have hb' : b = must n i c := by
        rw [← hb]
        simp [h1', h2']
      refine i_ifB (fun h3 => ?_) (fun h3 => ?_)
      · walk_at "go"
        exact yes (by rw [← hb', h3])
      · walk_at "go"
        exact no (by rw [← hb', h3])
    walk_at "go"
    refine i_ifD (fun h3 => ?_) (fun h3 => ?_)
    · have h3' : i = 0 := by omega
      walk_at "go"
      refine i_ifD (fun h4 => ?_) (fun h4 => ?_)
      · have h4' : c = 64 := by simpa using h4
        walk_at "upto"
        refine key _ _ ?_ ?_
        · exact fun _ _ h => h
        · simp [must, h3', h4']
      have h4' : c ≠ 64 := fun e => h4 (by rw [e])
      walk_at "go"
      refine i_ifD (fun h5 => ?_) (fun h5 => ?_)
      · walk_at "upto"
        refine key _ _ ?_ ?_
        · exact fun _ _ h => h
        · simp [must, h3', h5]
      · walk_at "upto"
        refine key _ _ ?_ ?_
        · exact fun _ _ h => h
        · simp [must, h3', h4', h5]
    · have h3' : i ≠ 0 := by omega
      walk_at "upto"
      refine key _ _ ?_ ?_
      · exact fun _ _ h => h
      · simp [must, h3']
  · rintro σ H' ⟨y, z, w, rfl, hs⟩
    rw [List.take_length]
    walk_at "go"
    exact fgt0 hs q
end




section
variable {K : PySem.W.Frag} {C : Ad} {vs : List V} {H : Hp} {Q : VK} {E : XK}
theorem rd_l_cells (h : sp_l_cells K C vs H Q E) : t_l_cells K C E (ends Q) (st 5 vs) H := by
  obtain ⟨a, ns, s, m, b, rfl, hS, h1, h2, q⟩ := h
  unfold t_l_cells
  walk_at "go"
  refine i_ifB (fun hb => ?_) (fun hb => ?_)
  · walk_at "go"
    intro D hD
    refine lc_rangeR (fun _ y => ∃ c, y = .int c) hD (by omega) (fun x => rfl) (fun k H' hk hs Q' hq => ?_) (fun ys hys hR => ?_)
    · have hS2 := hs.seq hS
      walk_at "go"
      exact hq _ ⟨_, rfl⟩
    · obtain ⟨cs, rfl⟩ := ints_of hR
      rw [List.length_map] at hys
      exact q D cs hD (.inl (by omega))
  · walk_at "go"
    intro D hD
    refine lc_rangeR (fun _ y => ∃ c, y = .int c) hD (by omega) (fun x => rfl) (fun k H' hk hs Q' hq => ?_) (fun ys hys hR => ?_)
    · have hS2 := hs.seq hS
      walk_at "go"
      exact hq _ ⟨_, rfl⟩
    · obtain ⟨cs, rfl⟩ := ints_of hR
      rw [List.length_map] at hys
      exact q D cs hD (by omega)
end




theorem stepsP_take {l : List (List Nat)} {i : Nat} {p : List Nat} {s t : List Step} (hp : l[i]? = some p) (h : stepsP (l.take i) = some s) (h2 : stepOf p = some t) : stepsP (l.take (i + 1)) = some (s ++ t) := by
  rw [take_snoc hp]
  exact stepsP_snoc h h2
theorem stepsP_bad : ∀ {l : List (List Nat)} {i : Nat} {p : List Nat}, l[i]? = some p → stepOf p = none → stepsP l = none
  | [], i, p, h, _ => by simp at h
  | a :: r, 0, p, h, e => by
    simp at h
    subst h
    rw [stepsP, e]
  | a :: r, i + 1, p, h, e => by
    rw [List.getElem?_cons_succ] at h
    rw [stepsP, stepsP_bad h e]
    cases stepOf a <;> rfl
theorem splitS_len : ∀ l : List Nat, (splitS l).length ≤ l.length + 1
  | [] => Nat.le_refl _
  | c :: r => by
    have ih := splitS_len r
    rw [splitS]
    split
    · simp
      omega
    · split
      · rename_i h t e
        rw [e] at ih
        simp at ih ⊢
        omega
      · simp
theorem splitS_part : ∀ {l : List Nat} {p : List Nat}, p ∈ splitS l → p.length ≤ l.length
  | [], p, h => by
    rw [splitS] at h
    rw [List.mem_singleton.mp h]
    exact Nat.le_refl _
  | c :: r, p, h => by
    rw [splitS] at h
    split at h
    · rcases List.mem_cons.mp h with rfl | h
      · exact Nat.zero_le _
      · have := splitS_part h
        simp
        omega
    · split at h
      · rename_i a t e
        rcases List.mem_cons.mp h with rfl | h
        · have := splitS_part (l := r) (p := a) (by rw [e]; exact List.mem_cons_self)
          simp
          exact this
        · have := splitS_part (l := r) (p := p) (by rw [e]; exact List.mem_cons_of_mem _ h)
          simp
          omega
      · rw [List.mem_singleton.mp h]
        simp
theorem stepOf_len {p : List Nat} {t : List Step} (h : stepOf p = some t) : t.length ≤ 1 := by
  unfold stepOf at h
  split at h
  · cases h
    exact Nat.zero_le _
  split at h
  · cases h
    exact Nat.le_refl _
  split at h
  · obtain ⟨n, _, rfl⟩ := Option.map_eq_some_iff.mp h
    exact Nat.le_refl _
  · obtain ⟨n, _, rfl⟩ := Option.map_eq_some_iff.mp h
    exact Nat.le_refl _
section
variable {K : PySem.W.Frag} {C : Ad} {vs : List V} {H : Hp} {Q : VK} {E : XK}
theorem cps_step {s : Step} (h : StepNd s) : ∀ l ∈ stepT s, Cps l := by
  intro l hl
  have e0 : ∀ l, (∀ c ∈ l, c < 1114112) → Cps l := fun _ h => h
  cases s with
  | root =>
    rw [List.mem_singleton.mp hl]
    exact e0 _ (by decide)
  | up =>
    rw [List.mem_singleton.mp hl]
    exact e0 _ (by decide)
  | share n =>
    rcases List.mem_cons.mp hl with rfl | hl
    · exact e0 _ (by decide)
    · rw [List.mem_singleton.mp hl]
      exact cps_named h
  | name n =>
    rcases List.mem_cons.mp hl with rfl | hl
    · exact e0 _ (by decide)
    · rw [List.mem_singleton.mp hl]
      exact cps_named h
end




section
variable {K : PySem.W.Frag} {C : Ad} {vs : List V} {H : Hp} {Q : VK} {E : XK}
theorem nms_of {xs : List V} {ys : List V} (h : Paired (fun _ y => ∃ l, y = vS l ∧ Nm l) xs ys) : ∃ pl : Place, ys = pl.map vS ∧ pl.length = xs.length ∧ ∀ n ∈ pl, Nm n := paired_strs (fun _ _ h => h) h
theorem rd_l_place_by (h : sp_l_place_by K C vs H Q E) : t_l_place_by K C E (ends Q) (st 2 vs) H := by
  obtain ⟨a, cs, rfl, hA, hl, q⟩ := h
  unfold t_l_place_by
  walk_at "go"
  refine ⟨a, rfl, ⟨_, hA⟩, fun D hD => ?_⟩
  refine lc_listR (xs := cs.map V.int) (fun _ y => ∃ l, y = vS l ∧ Nm l) hD hA (by rw [List.length_map]; omega) (fun x => rfl) (fun k x H' hk hs Q' hq => ?_) (fun ys hR => ?_)
  · obtain ⟨c, _, rfl⟩ := List.mem_map.mp (List.mem_of_getElem? hk)
    walk_at "go"
    refine i_l_name_by fun l hl => ?_
    exact hq _ ⟨l, rfl, hl⟩
  · obtain ⟨pl, rfl, h1, h2⟩ := nms_of hR
    rw [List.length_map] at h1
    exact q D pl hD h1 h2
/-- the heap of a walk: the place's list is new -/
structure WalkAt (H H' : Hp) (q : Addr) (pl : Place) : Prop where
  same : Same H H'
  new : H q = none
  at_ : H' q = some (.lst (pl.map vS))
theorem rd_l_walk (h : sp_l_walk K C vs H Q E) : t_l_walk K C E (ends Q) (st 4 vs) H := by
  obtain ⟨p, s, d, start, pl, ss, places, rfl, hp, hs, hd, hl, hsh, e, q⟩ := h
  unfold t_l_walk
  walk_at "go"
  intro w hw
  walk_at "go"
  refine for_steps hs (fun i σ H' => ∃ u z y, σ = [some (.ref u), some (.ref s), some (.ref d), z] ∧ WalkAt H H' u y ∧ walkP (look places) (ss.take i) start = some y) ⟨w, none, start, rfl, ⟨same_new hw, hw, upd_same⟩, rfl⟩ ?_ ?_ ?_
  · rintro i σ H' ⟨u, z, y, rfl, W, _⟩
    exact W.same
  · rintro i step a σ H' hi ⟨u, z, y, rfl, W, ey⟩ ha
    have hil : i < ss.length := (List.getElem?_eq_some_iff.mp hi).1
    have hyl := walkP_len (B := max start.length 400000) (k := 0) (fun n p h => Nat.le_trans (hsh n p h) (Nat.le_max_right _ _)) (by omega) ey
    have htl : (ss.take i).length ≤ ss.length := by
      rw [List.length_take]
      omega
    have hup := SqL.of (K := K) W.at_
    have est := walkP_take hi ey
    have fin : ∀ r H1, Same H' H1 → H' r = none → (∀ y', stepP (look places) step y = some y' → H1 r = some (.lst (y'.map vS))) → ∃ u z' y', [some (V.ref r), some (.ref s), some (.ref d), some (.ref a)] = [some (V.ref u), some (.ref s), some (.ref d), z'] ∧ WalkAt H H1 u y' ∧ walkP (look places) (ss.take (i + 1)) start = some y' := by
      intro r H1 h1 h2 h3
      cases e2 : stepP (look places) step y with
      | none =>
        have : walkP (look places) ss start = none := by
          have es : ss = ss.take (i + 1) ++ ss.drop (i + 1) := (List.take_append_drop _ _).symm
          rw [es, walkP_app, est, e2]
          rfl
        rw [this] at e
        cases e
      | some y' =>
        have hr : H r = none := by
          cases e5 : H r with
          | none => rfl
          | some o =>
            have := W.same r o e5
            rw [h2] at this
            cases this
        exact ⟨r, _, y', rfl, ⟨W.same.trans h1, hr, h3 y' e2⟩, by rw [est, e2]⟩
    cases step with
    | root =>
      have ha : SqT K H' a [vS [114, 111, 111, 116]] := ha
      walk_at "go"
      intro r hr
      exact fin r _ (same_new hr) hr fun y' e => by cases e; exact upd_same
    | up =>
      have ha : SqT K H' a [vS [117, 112]] := ha
      walk_at "go"
      intro r hr
      refine fin r _ (same_new hr) hr fun y' e => ?_
      cases e
      rw [cutN_last, upd_same, List.map_dropLast]
    | share n =>
      have ha : SqT K H' a [vS [115, 104, 97, 114, 101], vS n] := ha
      have e2 : ∃ y', look places n = some y' := by
        cases e2 : look places n with
        | some y' => exact ⟨y', rfl⟩
        | none =>
          have : walkP (look places) ss start = none := by
            have es : ss = ss.take (i + 1) ++ ss.drop (i + 1) := (List.take_append_drop _ _).symm
            rw [es, walkP_app, est]
            show (look places n).bind _ = none
            rw [e2]
            rfl
          rw [this] at e
          cases e
      obtain ⟨y', e2⟩ := e2
      walk_at "go"
      refine i_get (hd.same placeR_grows W.same) e2 fun v hv => ?_
      obtain ⟨x, rfl, hx⟩ := hv
      walk_at "go"
      refine i_listL (SqL.of hx) fun r hr => ?_
      walk_at "go"
      refine fin r _ (same_new hr) hr fun y2 e3 => ?_
      have : some y' = some y2 := e2.symm.trans e3
      cases this
      exact upd_same
    | name n =>
      have ha : SqT K H' a [vS [110, 97, 109, 101], vS n] := ha
      walk_at "go"
      intro r hr
      walk_at "go"
      refine i_cat (lk W.at_ hr) upd_same (by rw [List.length_map]; simp; omega) fun r2 hr2 => ?_
      walk_at "go"
      refine fin r2 _ ((same_new hr).trans (same_new hr2)) (new_ne hr2).2 fun y' e => ?_
      cases e
      rw [upd_same]
      simp
  · rintro σ H' ⟨u, z, y, rfl, W, ey⟩
    rw [List.take_length] at ey
    have : some y = some pl := ey.symm.trans e
    cases this
    walk_at "go"
    exact q u H' W.same W.new W.at_
end




theorem splitS_ln : ∀ l : List Nat, (splitS l).length ≤ l.length + 1 := splitS_len
theorem stepsP_ln : ∀ {ps : List (List Nat)} {ss : List Step}, stepsP ps = some ss → ss.length ≤ ps.length
  | [], ss, h => by
    cases h
    exact Nat.le_refl _
  | p :: r, ss, h => by
    rw [stepsP] at h
    cases e : stepOf p with
    | none =>
      rw [e] at h
      cases h
    | some t =>
      rw [e] at h
      obtain ⟨u, hu, rfl⟩ := Option.map_eq_some_iff.mp h
      have h1 := stepOf_len e
      have h2 := stepsP_ln hu
      simp
      omega
theorem stepsOf_ln {l : List Nat} {ss : List Step} (h : stepsOf l = some ss) : ss.length ≤ l.length + 2 := by
  obtain ⟨u, hu, rfl⟩ := Option.map_eq_some_iff.mp h
  have h1 := stepsP_ln hu
  have h2 := splitS_len l
  have h3 : (rootOf l).length ≤ 1 := by
    unfold rootOf
    split <;> simp
  simp
  omega
theorem walkP_fail {pl : List Nat → Option Place} {ss : List Step} {i : Nat} {s : Step} {p y : Place} (h : ss[i]? = some s) (e : walkP pl (ss.take i) p = some y) (e2 : stepP pl s y = none) : walkP pl ss p = none := by
  have es : ss = ss.take (i + 1) ++ ss.drop (i + 1) := (List.take_append_drop _ _).symm
  rw [es, walkP_app, walkP_take h e, e2]
  rfl
theorem fresh_back {H H' : Hp} {r : Addr} (s : Same H H') (h : H' r = none) : H r = none := by
  cases e : H r with
  | none => rfl
  | some o =>
    have := s r o e
    rw [h] at this
    cases this
section
variable {K : PySem.W.Frag} {C : Ad} {vs : List V} {H : Hp} {Q : VK} {E : XK}
def farParts (m u : Nat) : List (List Nat) := List.replicate m [97] ++ List.replicate u [46, 46] ++ [[98]]
def farSteps (m u : Nat) : List Step := List.replicate m (.name [97]) ++ List.replicate u .up ++ [.name [98]]
theorem stepsP_rep {p : List Nat} {s : Step} (h : stepOf p = some [s]) : ∀ k : Nat, stepsP (List.replicate k p) = some (List.replicate k s)
  | 0 => rfl
  | k + 1 => by
    rw [List.replicate_succ, stepsP, h]
    show (stepsP (List.replicate k p)).map _ = _
    rw [stepsP_rep h k]
    rfl
theorem stepsP_two {a b : List (List Nat)} {s t : List Step} (h : stepsP a = some s) (h2 : stepsP b = some t) : stepsP (a ++ b) = some (s ++ t) := by
  rw [stepsP_append, h]
  show (stepsP b).map _ = _
  rw [h2]
  rfl
theorem far_steps (m u : Nat) : stepsP (farParts m u) = some (farSteps m u) := stepsP_two (stepsP_two (stepsP_rep (by decide) m) (stepsP_rep (by decide) u)) (by decide)
theorem map_flat_rep (n : Nat) (v : V) : (List.replicate n [v]).flatten = List.replicate n v := by
  induction n with
  | zero => rfl
  | succ n ih =>
    rw [List.replicate_succ, List.flatten_cons, ih]
    rfl
theorem head_join {ps : List (List Nat)} {p : List Nat} {c : Nat} {r : List Nat} (h : ps.head? = some p) (e : p = c :: r) : (joinS ps).head? = some c := by
  match ps, h with
  | [x], h =>
    cases h
    rw [e]
    rfl
  | x :: y :: t, h =>
    cases h
    rw [e]
    rfl
theorem paired_rep {α β : Type} {R : α → β → Prop} {a : α} {b : β} (h : R a b) : ∀ n : Nat, Paired R (List.replicate n a) (List.replicate n b)
  | 0 => .nil
  | n + 1 => .cons h (paired_rep h n)
theorem nm97 : Nm [97] := ⟨fun c hc => by rw [List.mem_singleton.mp hc]; decide, by decide, by decide⟩
theorem nm98 : Nm [98] := ⟨fun c hc => by rw [List.mem_singleton.mp hc]; decide, by decide, by decide⟩
end




theorem cutN_fromI {α : Type} (l : List α) {z : Int} {k : Nat} (e : z = (k : Int)) : cutN l (some z) none = l.drop k := by rw [e]; exact cutN_from l k
theorem allNm_drop {ns : Place} (h : AllNm ns) (k : Nat) : AllNm (ns.drop k) := fun n hn => h n (List.mem_of_mem_drop hn)
theorem rep_zero' (l : List Nat) : repL 0 l = [] := rfl
section
variable {K : PySem.W.Frag} {C : Ad} {vs : List V} {H : Hp} {Q : VK} {E : XK}
theorem rd_p_shared (h : sp_p_shared K C vs H Q E) : t_p_shared K C E (ends Q) (st 5 vs) H := by
  obtain ⟨p, q, x, y, rfl, h1, h2, k⟩ := h
  unfold t_p_shared
  walk_at "go"
  refine i_zip ?_
  walk_at "go"
  refine ⟨p, q, _, _, rfl, h1, h2, ?_⟩
  refine for_it (walk_zip (K := K) (xs := x.map vS) (ys := y.map vS) rfl) (fun i σ H' => ∃ z w, σ = [some (.ref p), some (.ref q), some (.int (i : Int)), z, w] ∧ Same H H' ∧ x.take i = y.take i) ⟨none, none, rfl, Same.refl _, rfl⟩ ?_ ?_ ?_
  · rintro i σ H' _ ⟨z, w, rfl, s, _⟩
    exact ⟨s.seq h1, s.seq h2⟩
  · rintro i v σ H1 H' hi ⟨z, w, rfl, s, et⟩ ⟨T, a, b, rfl, hT, rfl, ha, hb⟩
    obtain ⟨n, hn, rfl⟩ : ∃ n, x[i]? = some n ∧ a = vS n := by
      dsimp only at ha
      rw [List.getElem?_map] at ha
      cases e : x[i]? with
      | none =>
        rw [e] at ha
        cases ha
      | some n =>
        rw [e] at ha
        exact ⟨n, rfl, (Option.some.inj ha).symm⟩
    obtain ⟨m, hm, rfl⟩ : ∃ m, y[i]? = some m ∧ b = vS m := by
      dsimp only at hb
      rw [List.getElem?_map] at hb
      cases e : y[i]? with
      | none =>
        rw [e] at hb
        cases hb
      | some m =>
        rw [e] at hb
        exact ⟨m, rfl, (Option.some.inj hb).symm⟩
    have s2 := Same.new (o := .tup [vS n, vS m]) s hT
    refine ⟨T, _, rfl, SqT.of upd_same, rfl, ?_⟩
    refine ⟨_, _, rfl, ?_⟩
    walk_at "go"
    refine ⟨_, _, rfl, ?_⟩
    walk_at "go"
    refine ⟨rfl, ?_⟩
    generalize upd H1 T (.tup [vS n, vS m]) = H2 at *
    walk_at "go"
    refine i_ifN (fun h3 => ?_) (fun h3 => ?_)
    · walk_at "go"
      rw [← shN_at et hn hm h3]
      exact k _ s2
    · walk_at "go"
      refine ⟨some (vS n), some (vS m), rfl, s2, ?_⟩
      rw [take_snoc hn, take_snoc hm, et, h3]
  · rintro σ H' ⟨z, w, rfl, s, et⟩
    rw [List.length_map, List.length_map] at et
    walk_at "go"
    rw [List.length_map, List.length_map]
    have := shN_end et (Nat.min_le_left _ _) (Nat.min_le_right _ _) (by omega)
    rw [← this]
    exact k _ s
theorem rd_p_told (h : sp_p_told K C vs H Q E) : t_p_told K C E (ends Q) (st 5 vs) H := by
  obtain ⟨r, u, p, ns, rfl, hp, hn, hl, q⟩ := h
  unfold t_p_told
  walk_at "go"
  intro a1 g1
  walk_at "go"
  refine i_rep (n := u) rfl upd_same (by omega) (by simp; omega) fun a2 g2 => ?_
  rw [map_flat_rep]
  have k2 := upd_same (H := upd H a1 (.lst [vS [46, 46]])) (a := a2) (o := .lst (List.replicate u (vS [46, 46])))
  have s2 : Same H (upd (upd H a1 (.lst [vS [46, 46]])) a2 (.lst (List.replicate u (vS [46, 46])))) := (same_new g1).trans (same_new g2)
  generalize upd (upd H a1 (.lst [vS [46, 46]])) a2 (.lst (List.replicate u (vS [46, 46]))) = H2 at *
  walk_at "go"
  refine ⟨p, rfl, ⟨_, s2.seq hp⟩, fun D hD => ?_⟩
  refine lc_strF (ms := ns) (fun n => vS (written n)) hD (s2.seq hp) (by omega) (fun x => rfl) (fun m H3 hm s3 Q' hq => ?_) ?_
  · walk_at "go"
    refine i_p_written (hn m hm).nd (by have := (hn m hm).hi; omega) ?_
    exact hq
  refine i_cat (lk k2 hD) upd_same (by simp; omega) fun a4 g4 => ?_
  walk_at "go"
  have e4 : List.replicate u (vS [46, 46]) ++ ns.map (fun n => vS (written n)) = (toldParts u ns).map vS := by simp [toldParts]
  rw [e4]
  have s4 : Same H (upd (upd H2 D (.lst (ns.map fun n => vS (written n)))) a4 (.lst ((toldParts u ns).map vS))) := (s2.trans (same_new hD)).trans (same_new g4)
  have k4 : upd (upd H2 D (.lst (ns.map fun n => vS (written n)))) a4 (.lst ((toldParts u ns).map vS)) a4 = some (.lst ((toldParts u ns).map vS)) := upd_same
  generalize upd (upd H2 D (.lst (ns.map fun n => vS (written n)))) a4 (.lst ((toldParts u ns).map vS)) = H4 at *
  have hsum : sumL (toldParts u ns) ≤ 129 * (toldParts u ns).length := sumL_le fun p hp => (toldParts_mem hn p hp).2.2.2.1
  have hjl := toldParts_join_len (u := u) hn
  have hpl := toldParts_len u ns
  have fin := q H4 s4
  unfold toldL at fin
  refine i_ifB (fun h1 => ?_) (fun h1 => ?_)
  · walk_at "go"
    rw [if_pos h1] at fin
    refine i_join (SqL.of k4) (by omega) ?_
    refine i_addS (by simp; omega) ?_
    exact fin
  · walk_at "go"
    rw [if_neg (by rw [h1]; decide)] at fin
    refine i_lenL (SqL.of k4) ?_
    walk_at "go"
    rw [List.length_map]
    refine i_ifD (fun h2 => ?_) (fun h2 => ?_)
    · walk_at "go"
      have : toldParts u ns = [] := List.length_eq_zero_iff.mp (by omega)
      rw [if_pos this] at fin
      exact fin
    · walk_at "go"
      have : toldParts u ns ≠ [] := fun z => h2 (by rw [z]; rfl)
      rw [if_neg this] at fin
      refine i_join (SqL.of k4) (by omega) ?_
      exact fin
theorem rd_p_way (h : sp_p_way K C vs H Q E) : t_p_way K C E (ends Q) (st 3 vs) H := by
  obtain ⟨p, q, x, y, rfl, h1, h2, hn, hl, k⟩ := h
  have hle := shN_le x y
  unfold t_p_way
  walk_at "go"
  refine i_p_shared h1 h2 fun H1 s1 => ?_
  have h1' := s1.seq h1
  walk_at "go"
  rw [List.length_map]
  refine i_slL (s1.seq h2) fun w hw => ?_
  walk_at "go"
  rw [cutN_from]
  have e : (y.map vS).drop (shN x y) = (y.drop (shN x y)).map vS := by simp
  rw [e]
  refine i_p_told (u := x.length - shN x y) (by omega) (SqL.of upd_same) (allNm_drop hn _) (by simp; omega) fun H3 s3 => ?_
  exact k H3 ((s1.trans (same_new hw)).trans s3)
end




theorem told_line {u : Nat} {ns : Place} (r : Bool) (h : toldParts u ns ≠ []) : (toldL r u ns).drop (if r = true then [Step.root] else []).length = joinS (toldParts u ns) := by
  unfold toldL
  cases r with
  | true => rfl
  | false =>
    rw [if_neg (by decide), if_neg h]
    rfl
section
variable {K : PySem.W.Frag} {C : Ad} {vs : List V} {H : Hp} {Q : VK} {E : XK}
theorem rd_l_plain_steps (h : sp_l_plain_steps K C vs H Q E) : t_l_plain_steps K C E (ends Q) (st 4 vs) H := by
  obtain ⟨r, u, ns, rfl, hn, hl, q⟩ := h
  have hll := toldL_len (r := r) (u := u) hn
  have hroot := told_root (u := u) hn r
  have hbare := told_bare (u := u) hn r
  have htd : toldSteps r u ns = (if r = true then [Step.root] else []) ++ partSteps u ns := rfl
  have hln := fun h => told_line (u := u) (ns := ns) r h
  unfold t_l_plain_steps
  generalize toldL r u ns = l at *
  walk_at "go"
  intro P hP
  walk_at "go"
  refine i_cut (fun σ2 H2 => ∃ us, σ2 = [some (vS l), some (.ref P), none, none] ∧ Same H H2 ∧ H2 P = some (.lst us) ∧ Paired (StepAt K H2) us (if r = true then [Step.root] else [])) ?_ ?_
  · walk_at "go"
    rw [cutN_t1]
    refine i_ifD (fun h1 => ?_) (fun h1 => ?_)
    · walk_at "go"
      refine i_tyL upd_same ?_
      walk_at "go"
      intro t ht
      walk_at "go"
      refine i_append (lk upd_same ht) (by simp) ?_
      refine ⟨_, rfl, Same.mut ((same_new hP).trans (same_new ht)) hP, upd_same, ?_⟩
      rw [if_pos (hroot.mp h1)]
      exact .cons ⟨t, rfl, sqt_upd (lk upd_same ht) (SqT.of upd_same)⟩ .nil
    · walk_at "go"
      refine ⟨[], rfl, same_new hP, upd_same, ?_⟩
      rw [if_neg (fun z => h1 (hroot.mpr z))]
      exact .nil
  · rintro σ2 H2 ⟨us0, rfl, s2, hP2, at2⟩
    have hbase : ∀ z : l = [47] ∨ l = [46], Steps K H2 P (toldSteps r u ns) := by
      intro z
      have := told_nil_iff.mp (hbare.mp z)
      refine ⟨us0, hP2, ?_⟩
      rw [htd, this.1, this.2]
      show Paired (StepAt K H2) us0 (_ ++ [])
      rw [List.append_nil]
      exact at2
    walk_at "go"
    refine i_ifD (fun h1 => ?_) (fun h1 => ?_)
    · walk_at "go"
      exact q P H2 s2 hP (hbase (.inl h1))
    walk_at "go"
    refine i_ifD (fun h2 => ?_) (fun h2 => ?_)
    · walk_at "go"
      exact q P H2 s2 hP (hbase (.inr h2))
    have hpne : toldParts u ns ≠ [] := fun z => (hbare.mpr z).elim h1 h2
    have hl0 := paired_len at2
    have hmem := toldParts_mem (u := u) hn
    have hpl := toldParts_len u ns
    walk_at "go"
    refine i_lenL (SqL.of hP2) ?_
    walk_at "go"
    rw [cutN_from, hl0, hln hpne]
    have hjl := toldParts_join_len (u := u) hn
    refine i_split (by omega) fun t ht => ?_
    rw [split_join hpne fun p hp => (hmem p hp).1]
    have hPt : P ≠ t := fun z => by
      rw [z, ht] at hP2
      cases hP2
    refine for_texts (ns := toldParts u ns) (fun i σ H' => ∃ us z w, σ = [some (vS l), some (.ref P), z, w] ∧ Same H H' ∧ H' t = some (.lst ((toldParts u ns).map vS)) ∧ H' P = some (.lst us) ∧ Paired (StepAt K H') us ((if r = true then [Step.root] else []) ++ (partSteps u ns).take i))
      ⟨us0, none, none, rfl, Same.new s2 ht, upd_same, lk hP2 ht, by rw [List.take_zero, List.append_nil]; exact paired_mono (fun _ _ r => r.same (same_new ht)) at2⟩ ?_ ?_ ?_
    · rintro i σ H' ⟨us, z, w, rfl, s, ht', _⟩
      exact SqL.of ht'
    · rintro i p σ H' hi ⟨us, z, w, rfl, s, ht', hP', hat⟩
      have hil : i < (toldParts u ns).length := (List.getElem?_eq_some_iff.mp hi).1
      have hul := paired_len hat
      have hrl : (if r = true then [Step.root] else []).length ≤ 1 := by
        split <;> simp
      have htl : ((partSteps u ns).take i).length ≤ i := by
        rw [List.length_take]
        omega
      rw [List.length_append] at hul
      have put : ∀ (s0 : Step) (T : Addr) (H3 : Hp), (partSteps u ns)[i]? = some s0 → H' T = none → H3 = upd H' T (.tup (stepV s0)) → ∀ y w : Option V, ∃ us' z' w', [some (vS l), some (.ref P), y, w] = [some (vS l), some (.ref P), z', w'] ∧ Same H (upd H3 P (.lst (us ++ [.ref T]))) ∧ (upd H3 P (.lst (us ++ [.ref T]))) t = some (.lst ((toldParts u ns).map vS)) ∧ (upd H3 P (.lst (us ++ [.ref T]))) P = some (.lst us') ∧
          Paired (StepAt K (upd H3 P (.lst (us ++ [.ref T])))) us' ((if r = true then [Step.root] else []) ++ (partSteps u ns).take (i + 1)) := by
        rintro s0 T H3 hs0 hT rfl y w
        refine ⟨_, _, _, rfl, Same.mut (Same.new s hT) hP, ?_, upd_same, ?_⟩
        · rw [upd_ne (fun z => hPt z.symm)]
          exact lk ht' hT
        · rw [take_snoc hs0, ← List.append_assoc]
          refine paired_app (paired_mono (fun _ _ r => (r.same (same_new hT)).upd (lk hP' hT)) hat) (.cons ?_ .nil)
          exact ⟨T, rfl, sqt_upd (lk hP' hT) (SqT.of upd_same)⟩
      rcases parts_get hi with ⟨rfl, hs0⟩ | ⟨n, hnm, rfl, hs0⟩
      · walk_at "go"
        refine i_tyL hP' ?_
        walk_at "go"
        intro T hT
        walk_at "go"
        refine i_append (lk hP' hT) (by omega) ?_
        exact put .up T _ hs0 hT rfl _ _
      · have hN := hn n hnm
        have hw := written_plain hN.lo
        have hwl := written_len n
        have hhi := hN.hi
        obtain ⟨c, rest, hc⟩ : ∃ c rest, written n = c :: rest := by
          cases e : written n with
          | nil => exact absurd e hw.ne
          | cons c rest => exact ⟨c, rest, rfl⟩
        have hc64 : c ≠ 64 := fun z => by
          have := hw.at_
          rw [hc, z] at this
          exact this rfl
        walk_at "go"
        refine i_ifD (fun h3 => absurd h3 hw.dots) (fun h3 => ?_)
        walk_at "go"
        refine i_l_read (by omega) ?_
        rw [nameOf_written hN.nd]
        dsimp only [optV]
        walk_at "go"
        refine i_ifD (fun h4 => nomatch h4) (fun _ => ?_)
        walk_at "go"
        refine i_ifD (fun h4 => absurd h4 hN.lo) (fun _ => ?_)
        walk_at "go"
        refine i_ifD (fun h4 => absurd h4 hw.dot) (fun _ => ?_)
        walk_at "go"
        refine i_ixS (i := 0) (c := c) rfl (by omega) (by rw [hc]; rfl) ?_
        walk_at "go"
        refine i_ifD (fun h4 => absurd (by simpa using h4) hc64) (fun _ => ?_)
        walk_at "go"
        refine i_tyL hP' ?_
        walk_at "go"
        intro T hT
        walk_at "go"
        refine i_append (lk hP' hT) (by omega) ?_
        exact put (.name n) T _ hs0 hT rfl _ _
    · rintro σ H' ⟨us, z, w, rfl, s, ht', hP', hat⟩
      have e : (partSteps u ns).take (toldParts u ns).length = partSteps u ns := by
        rw [hpl, ← partSteps_len]
        exact List.take_length
      rw [e, ← htd] at hat
      walk_at "go"
      exact q P H' s hP ⟨us, hP', hat⟩
theorem rd_l_as_told (h : sp_l_as_told K C vs H Q E) : t_l_as_told K C E (ends Q) (st 7 vs) H := by
  obtain ⟨r, u, ns, p, rfl, hs, hn, hl, hr, q⟩ := h
  have hll := toldL_len (r := r) (u := u) hn
  have hroot := told_root (u := u) hn r
  have hu := cntUp_told r u ns
  have hnn := namesS_told r u ns
  have hsl := toldSteps_len r u ns
  generalize hss : toldSteps r u ns = ss at *
  have hs0 := hs
  obtain ⟨us, hp, hat⟩ := hs
  have hul := paired_len hat
  unfold t_l_as_told
  walk_at "go"
  refine ⟨p, rfl, ⟨us, SqL.of hp⟩, fun D hD => ?_⟩
  refine lc_list (K := K) (a := p) (xs := us) (fun k H' => ∃ acc, acc.length = cntUp (ss.take k) ∧ H' = upd H D (.lst acc)) ⟨[], rfl, rfl⟩ (fun k H' _ e => ?_) ?_ ?_
  · obtain ⟨acc, _, rfl⟩ := e
    exact SqL.of (lk hp hD)
  · rintro k x H' hx ⟨acc, hac, rfl⟩
    obtain ⟨s, hs, rr⟩ := paired_get hat hx
    obtain ⟨a, rfl, ha⟩ := rr.same (same_new (o := .lst acc) hD)
    have hk : k < ss.length := (List.getElem?_eq_some_iff.mp hs).1
    have hle : cntUp (ss.take k) ≤ k := by
      have := cntUp_le (ss.take k)
      rw [List.length_take] at this
      omega
    refine ⟨rfl, ?_⟩
    rw [take_snoc hs, cntUp_app]
    cases s with
    | root =>
      have ha : SqT K (upd H D (.lst acc)) a [vS [114, 111, 111, 116]] := ha
      walk_at "go"
      exact ⟨acc, by simp [cntUp, hac], rfl⟩
    | up =>
      have ha : SqT K (upd H D (.lst acc)) a [vS [117, 112]] := ha
      walk_at "go"
      refine ⟨_, upd_same, to_lineL (by omega), acc ++ [.ref a], by simp [cntUp, hac], by rw [upd_upd]⟩
    | share n =>
      have ha : SqT K (upd H D (.lst acc)) a [vS [115, 104, 97, 114, 101], vS n] := ha
      walk_at "go"
      exact ⟨acc, by simp [cntUp, hac], rfl⟩
    | name n =>
      have ha : SqT K (upd H D (.lst acc)) a [vS [110, 97, 109, 101], vS n] := ha
      walk_at "go"
      exact ⟨acc, by simp [cntUp, hac], rfl⟩
  rintro H' ⟨acc, hac, rfl⟩
  rw [hul, List.take_length, hu] at hac
  walk_at "go"
  refine i_lenL (SqL.of upd_same) ?_
  rw [hac]
  have s1 : Same H (upd H D (.lst acc)) := same_new hD
  generalize upd H D (.lst acc) = H1 at *
  have hp1 := s1 _ _ hp
  have hat1 := paired_mono (fun _ _ r => StepAt.same s1 r) hat
  walk_at "go"
  refine ⟨p, rfl, ⟨us, SqL.of hp1⟩, fun D2 hD2 => ?_⟩
  refine lc_list (K := K) (a := p) (xs := us) (fun k H' => H' = upd H1 D2 (.lst ((namesS (ss.take k)).map vS))) rfl (fun k H' _ e => ?_) ?_ ?_
  · rw [e]
    exact SqL.of (lk hp1 hD2)
  · rintro k x H' hx rfl
    obtain ⟨s, hs, rr⟩ := paired_get hat1 hx
    obtain ⟨a, rfl, ha⟩ := rr.same (same_new (o := .lst ((namesS (ss.take k)).map vS)) hD2)
    have hk : k < ss.length := (List.getElem?_eq_some_iff.mp hs).1
    have hle : (namesS (ss.take k)).length ≤ k := by
      have := namesS_le (ss.take k)
      rw [List.length_take] at this
      omega
    refine ⟨rfl, ?_⟩
    rw [take_snoc hs, namesS_app]
    cases s with
    | root =>
      have ha : SqT K (upd H1 D2 (.lst ((namesS (ss.take k)).map vS))) a [vS [114, 111, 111, 116]] := ha
      walk_at "go"
      simp [namesS]
    | up =>
      have ha : SqT K (upd H1 D2 (.lst ((namesS (ss.take k)).map vS))) a [vS [117, 112]] := ha
      walk_at "go"
      simp [namesS]
    | share n =>
      have ha : SqT K (upd H1 D2 (.lst ((namesS (ss.take k)).map vS))) a [vS [115, 104, 97, 114, 101], vS n] := ha
      walk_at "go"
      simp [namesS]
    | name n =>
      have ha : SqT K (upd H1 D2 (.lst ((namesS (ss.take k)).map vS))) a [vS [110, 97, 109, 101], vS n] := ha
      walk_at "go"
      refine ⟨_, upd_same, to_lineL (by rw [List.length_map]; omega), ?_⟩
      rw [upd_upd]
      simp [namesS]
  rintro H' rfl
  rw [hul, List.take_length, hnn]
  have hN : upd H1 D2 (.lst (ns.map vS)) D2 = some (.lst (ns.map vS)) := upd_same
  have s2 := s1.trans (same_new (o := .lst (ns.map vS)) hD2)
  generalize upd H1 D2 (.lst (ns.map vS)) = H2 at *
  walk_at "go"
  intro a1 g1
  walk_at "go"
  refine i_rep (n := u) rfl upd_same (by omega) (by simp; omega) fun a2 g2 => ?_
  rw [map_flat_rep]
  have k2 := upd_same (H := upd H2 a1 (.lst [vS [46, 46]])) (a := a2) (o := .lst (List.replicate u (vS [46, 46])))
  have s3 : Same H2 (upd (upd H2 a1 (.lst [vS [46, 46]])) a2 (.lst (List.replicate u (vS [46, 46])))) := (same_new g1).trans (same_new g2)
  generalize upd (upd H2 a1 (.lst [vS [46, 46]])) a2 (.lst (List.replicate u (vS [46, 46]))) = H3 at *
  walk_at "go"
  have hN3 := s3 _ _ hN
  refine ⟨D2, rfl, ⟨_, SqL.of hN3⟩, fun D3 hD3 => ?_⟩
  refine lc_strF (ms := ns) (fun n => vS (written n)) hD3 (SqL.of hN3) (by omega) (fun x => rfl) (fun m H4 hm s4 Q' hq => ?_) ?_
  · walk_at "go"
    refine i_l_due_part (hn m hm).nd (by have := (hn m hm).hi; omega) ?_
    exact hq
  refine i_cat (lk k2 hD3) upd_same (by simp; omega) fun a4 g4 => ?_
  walk_at "go"
  have e4 : List.replicate u (vS [46, 46]) ++ ns.map (fun n => vS (written n)) = (toldParts u ns).map vS := by simp [toldParts]
  rw [e4]
  have s4 : Same H (upd (upd H3 D3 (.lst (ns.map fun n => vS (written n)))) a4 (.lst ((toldParts u ns).map vS))) := ((s2.trans s3).trans (same_new hD3)).trans (same_new g4)
  have k4 : upd (upd H3 D3 (.lst (ns.map fun n => vS (written n)))) a4 (.lst ((toldParts u ns).map vS)) a4 = some (.lst ((toldParts u ns).map vS)) := upd_same
  generalize upd (upd H3 D3 (.lst (ns.map fun n => vS (written n)))) a4 (.lst ((toldParts u ns).map vS)) = H4 at *
  have hsum : sumL (toldParts u ns) ≤ 129 * (toldParts u ns).length := sumL_le fun p hp => (toldParts_mem hn p hp).2.2.2.1
  have hjl := toldParts_join_len (u := u) hn
  have hpl := toldParts_len u ns
  have fin := q H4 s4
  rw [cutN_t1]
  refine i_ifD (fun h1 => ?_) (fun h1 => ?_)
  · have hr1 := hroot.mp h1
    have hu0 := hr hr1
    walk_at "go"
    refine i_ifD (fun _ => ?_) (fun h2 => absurd (by rw [hu0]; rfl) h2)
    walk_at "go"
    refine i_join (SqL.of k4) (by omega) ?_
    refine i_addS (by simp; omega) ?_
    walk_at "go"
    have e : decide (toldL r u ns = [47] ++ joinS (toldParts u ns)) = true := by
      refine decide_eq_true ?_
      unfold toldL
      rw [if_pos hr1]
      rfl
    rw [e]
    exact fin
  · have hr0 : ¬ r = true := fun z => h1 (hroot.mpr z)
    walk_at "go"
    refine i_join (SqL.of k4) (by omega) ?_
    walk_at "go"
    refine i_lenL (SqL.of k4) ?_
    walk_at "go"
    rw [List.length_map]
    have fin2 : ∀ k : Nat, joinS (toldParts u ns) ++ repL k [46] = toldL r u ns → k ≤ 1 → qMulS (vS [46]) (.int (k : Int)) H4 (fun y H5 => qAddS (vS (joinS (toldParts u ns))) y H5 fun y H6 => qEqS (vS (toldL r u ns)) y H6 Q) := by
      intro k hk hk1
      refine i_mulS (n := k) rfl (by simp; omega) (by omega) ?_
      refine i_addS (by
        have : (repL k [46]).length = k := by simp [repL]
        omega) ?_
      refine i_eqS ?_
      rw [hk, decide_eq_true rfl]
      exact fin
    by_cases hz : toldParts u ns = []
    · have e : decide (((toldParts u ns).length : Int) = 0) = true := by
        rw [hz]
        rfl
      rw [e]
      refine fin2 1 ?_ (Nat.le_refl _)
      unfold toldL
      rw [if_neg hr0, if_pos hz, hz]
      rfl
    · have e : decide (((toldParts u ns).length : Int) = 0) = false := by
        refine decide_eq_false fun z => hz (List.length_eq_zero_iff.mp (by omega))
      rw [e]
      refine fin2 0 ?_ (Nat.zero_le _)
      unfold toldL
      rw [if_neg hr0, if_neg hz]
      simp [repL]
end




theorem allNm_app {a b : Place} (h1 : AllNm a) (h2 : AllNm b) : AllNm (a ++ b) := fun n hn => (List.mem_append.mp hn).elim (h1 n) (h2 n)
theorem map_app (a b : Place) : a.map vS ++ b.map vS = (a ++ b).map vS := (List.map_append).symm
theorem cps_all {a : Place} (h : AllNm a) : ∀ l ∈ a, Cps l := fun l hl => cps_named (h l hl).nd
theorem i_min {i j : Int} {H : Hp} {Q : VK} (q : Q (.int (if j < i then j else i)) H) : qMin [.int i, .int j] H Q := ⟨i, j, rfl, q⟩
theorem steps_len {K : PySem.W.Frag} {H : Hp} {p : Addr} {ss : List Step} (h : Steps K H p ss) : ∃ us, H p = some (.lst us) ∧ us.length = ss.length := by
  obtain ⟨us, h1, h2⟩ := h
  exact ⟨us, h1, paired_len h2⟩
section
variable {K : PySem.W.Frag} {C : Ad} {vs : List V} {H : Hp} {Q : VK} {E : XK}
theorem rd_law_k09 (h : sp_law K C vs H Q E) : t_law_k09 K C E (ends Q) (st 11 vs) H := by
  obtain ⟨a, ns, rfl, hS, hlen, q⟩ := h
  unfold t_law_k09
  walk_at "go"
  refine i_l_cells (by omega) hS (by omega) fun R cs hR hcl => ?_
  have hS1 := (same_new (o := .lst (cs.map V.int)) hR).seq hS
  walk_at "go"
  refine i_l_place_by (SqL.of upd_same) (by omega) fun P0 pl0 hP0 hl0 hn0 => ?_
  have hS2 := (same_new (o := .lst (pl0.map vS)) hP0).seq hS1
  have hA : upd (upd H R (.lst (cs.map V.int))) P0 (.lst (pl0.map vS)) P0 = some (.lst (pl0.map vS)) := upd_same
  generalize upd (upd H R (.lst (cs.map V.int))) P0 (.lst (pl0.map vS)) = H1 at *
  walk_at "go"
  generalize cellAt ns (Int.toNat 1) = second
  intro D hD
  refine lc_rangeR (fun _ y => ∃ c, y = .int c) hD (by omega) (fun x => rfl) (fun k H' hk hs Q' hq => ?_) (fun ys hys hR => ?_)
  · have hS3 := hs.seq hS2
    walk_at "go"
    exact hq _ ⟨_, rfl⟩
  obtain ⟨c1, rfl⟩ := ints_of hR
  rw [List.length_map] at hys
  clear hR
  walk_at "go"
  refine i_l_place_by (SqL.of upd_same) (by omega) fun P1 pl1 hP1 hl1 hn1 => ?_
  refine i_cat (lk (lk hA hD) hP1) upd_same (by rw [List.length_map, List.length_map]; omega) fun S hSn => ?_
  rw [map_app]
  walk_at "go"
  have s1 : Same H1 (upd (upd (upd H1 D (.lst (c1.map V.int))) P1 (.lst (pl1.map vS))) S (.lst ((pl0 ++ pl1).map vS))) := ((same_new hD).trans (same_new hP1)).trans (same_new hSn)
  have hSt : upd (upd (upd H1 D (.lst (c1.map V.int))) P1 (.lst (pl1.map vS))) S (.lst ((pl0 ++ pl1).map vS)) S = some (.lst ((pl0 ++ pl1).map vS)) := upd_same
  generalize upd (upd (upd H1 D (.lst (c1.map V.int))) P1 (.lst (pl1.map vS))) S (.lst ((pl0 ++ pl1).map vS)) = H2 at *
  have hS4 := s1.seq hS2
  have hA2 := s1 _ _ hA
  walk_at "go"
  intro D2 hD2
  refine lc_rangeR (fun _ y => ∃ c, y = .int c) hD2 (by omega) (fun x => rfl) (fun k H' hk hs Q' hq => ?_) (fun ys hys hR => ?_)
  · have hS3 := hs.seq hS4
    walk_at "go"
    exact hq _ ⟨_, rfl⟩
  obtain ⟨c2, rfl⟩ := ints_of hR
  rw [List.length_map] at hys
  clear hR
  walk_at "go"
  refine i_l_place_by (SqL.of upd_same) (by omega) fun P2 pl2 hP2 hl2 hn2 => ?_
  refine i_cat (lk (lk hA2 hD2) hP2) upd_same (by rw [List.length_map, List.length_map]; omega) fun G hG => ?_
  rw [map_app]
  walk_at "go"
  have s2 : Same H2 (upd (upd (upd H2 D2 (.lst (c2.map V.int))) P2 (.lst (pl2.map vS))) G (.lst ((pl0 ++ pl2).map vS))) := ((same_new hD2).trans (same_new hP2)).trans (same_new hG)
  have hGt : upd (upd (upd H2 D2 (.lst (c2.map V.int))) P2 (.lst (pl2.map vS))) G (.lst ((pl0 ++ pl2).map vS)) G = some (.lst ((pl0 ++ pl2).map vS)) := upd_same
  generalize upd (upd (upd H2 D2 (.lst (c2.map V.int))) P2 (.lst (pl2.map vS))) G (.lst ((pl0 ++ pl2).map vS)) = H3 at *
  have hS5 := s2.seq hS4
  have hSt3 := s2 _ _ hSt
  have an1 : AllNm (pl0 ++ pl1) := allNm_app hn0 hn1
  have an2 : AllNm (pl0 ++ pl2) := allNm_app hn0 hn2
  have ln1 : (pl0 ++ pl1).length ≤ 64 := by simp; omega
  have ln2 : (pl0 ++ pl2).length ≤ 64 := by simp; omega
  generalize pl0 ++ pl1 = x0 at *
  generalize pl0 ++ pl2 = y0 at *
  refine i_cut (fun σ' H' => ∃ S x, σ' = [some (.ref a), some (.int (cellAt ns (Int.toNat 0))), some (.ref P0), some (.int second), some (.ref S), some (.ref G), none, none, none, none, none] ∧ Same H3 H' ∧ H' S = some (.lst (x.map vS)) ∧ AllNm x ∧ x.length ≤ 124) ?_ ?_
  · walk_at "go"
    refine i_ifD (fun h1 => ?_) (fun h1 => ?_)
    · walk_at "go"
      refine i_l_cells (by omega) hS5 (by omega) fun R cs hR hcl => ?_
      walk_at "go"
      refine i_l_place_by (SqL.of upd_same) (by omega) fun P3 pl3 hP3 hl3 hn3 => ?_
      refine i_cat (lk (lk hSt3 hR) hP3) upd_same (by rw [List.length_map, List.length_map]; omega) fun S2 hS2 => ?_
      rw [map_app]
      walk_at "go"
      exact ⟨S2, _, rfl, ((same_new hR).trans (same_new hP3)).trans (same_new hS2), upd_same, allNm_app an1 hn3, by simp; omega⟩
    · walk_at "go"
      exact ⟨S, x0, rfl, Same.refl _, hSt3, an1, by omega⟩
  clear hSt3 hSt an1 ln1 x0
  rintro σ' H4 ⟨S, x, rfl, s3, hSt, an1, ln1⟩
  have hGt4 := s3 _ _ hGt
  have hS6 := s3.seq hS5
  refine i_cut (fun σ' H' => ∃ G y, σ' = [some (.ref a), some (.int (cellAt ns (Int.toNat 0))), some (.ref P0), some (.int second), some (.ref S), some (.ref G), none, none, none, none, none] ∧ Same H4 H' ∧ H' G = some (.lst (y.map vS)) ∧ AllNm y ∧ y.length ≤ 124) ?_ ?_
  · walk_at "go"
    refine i_ifD (fun h1 => ?_) (fun h1 => ?_)
    · walk_at "go"
      refine i_l_cells (by omega) hS6 (by omega) fun R cs hR hcl => ?_
      walk_at "go"
      refine i_l_place_by (SqL.of upd_same) (by omega) fun P3 pl3 hP3 hl3 hn3 => ?_
      refine i_cat (lk (lk hGt4 hR) hP3) upd_same (by rw [List.length_map, List.length_map]; omega) fun G2 hG2 => ?_
      rw [map_app]
      walk_at "go"
      exact ⟨G2, _, rfl, ((same_new hR).trans (same_new hP3)).trans (same_new hG2), upd_same, allNm_app an2 hn3, by simp; omega⟩
    · walk_at "go"
      exact ⟨G, y0, rfl, Same.refl _, hGt4, an2, by omega⟩
  clear hGt4 hGt an2 ln2 y0 hG s2 hn1 hn2 hl1 hl2 s1 hD hD2
  rintro σ' H5 ⟨G, y, rfl, s4, hGt, an2, ln2⟩
  have hSt5 := s4 _ _ hSt
  have hSq := SqL.of (K := K) hSt5
  walk_at "go"
  intro L1 hL1
  have hG5 := lk (u := .lst (x.map vS)) hGt hL1
  walk_at "go"
  refine i_listL (SqL.of hG5) fun L2 hL2 => ?_
  walk_at "go"
  intro T hT
  have k1 : upd (upd (upd H5 L1 (.lst (x.map vS))) L2 (.lst (y.map vS))) T (.lst [.ref L1, .ref L2]) L1 = some (.lst (x.map vS)) := lk (lk upd_same hL2) hT
  have k2 : upd (upd (upd H5 L1 (.lst (x.map vS))) L2 (.lst (y.map vS))) T (.lst [.ref L1, .ref L2]) L2 = some (.lst (y.map vS)) := lk upd_same hT
  have k3 : upd (upd (upd H5 L1 (.lst (x.map vS))) L2 (.lst (y.map vS))) T (.lst [.ref L1, .ref L2]) T = some (.lst [.ref L1, .ref L2]) := upd_same
  have s5 : Same H5 (upd (upd (upd H5 L1 (.lst (x.map vS))) L2 (.lst (y.map vS))) T (.lst [.ref L1, .ref L2])) := ((same_new hL1).trans (same_new hL2)).trans (same_new hT)
  generalize upd (upd (upd H5 L1 (.lst (x.map vS))) L2 (.lst (y.map vS))) T (.lst [.ref L1, .ref L2]) = H6 at *
  walk_at "go"
  refine i_ixL (i := 0) rfl (SqL.of k3) rfl ?_
  walk_at "go"
  refine i_ixL (i := 1) rfl (SqL.of k3) rfl ?_
  walk_at "go"
  have hle := shN_le x y
  have htk := shN_take x y
  refine i_p_way (SqL.of k1) (SqL.of k2) an2 (by omega) fun H7 s7 => ?_
  have hends : ∀ c, c = shN x y → c ≤ x.length ∧ c ≤ y.length := fun c e => by rw [e]; exact hle
  generalize hc : shN x y = c at *
  have hand : AllNm (y.drop c) := allNm_drop an2 c
  walk_at "go"
  intro T2 hT2
  have s8 := s7.trans (same_new (o := .lst [V.ref S, V.ref G]) hT2)
  have m3 := s8 _ _ k3
  have m1 := s8 _ _ k1
  have m2 := s8 _ _ k2
  have m4 : upd H7 T2 (.lst [V.ref S, V.ref G]) T2 = some (.lst [V.ref S, V.ref G]) := upd_same
  have mS := (s5.trans s8) _ _ hSt5
  have mG := (s5.trans s8) _ _ hGt
  generalize upd H7 T2 (.lst [V.ref S, V.ref G]) = H8 at *
  have cx := cps_all an1
  have cy := cps_all an2
  refine i_neLLL (xs := [x, y]) (ys := [x, y]) (SqL.of m3) (SqL.of m4) (.cons ⟨L1, rfl, SqL.of m1⟩ (.cons ⟨L2, rfl, SqL.of m2⟩ .nil)) (.cons ⟨S, rfl, SqL.of mS⟩ (.cons ⟨G, rfl, SqL.of mG⟩ .nil)) ?_ ?_ ?_
  · intro ls hls
    rcases List.mem_cons.mp hls with rfl | hls
    · exact cx
    · rw [List.mem_singleton.mp hls]
      exact cy
  · intro ls hls
    rcases List.mem_cons.mp hls with rfl | hls
    · exact cx
    · rw [List.mem_singleton.mp hls]
      exact cy
  walk_at "go"
  refine i_eqLL (SqL.of mS) (SqL.of mG) cx cy ?_
  walk_at "go"
  refine i_ifD (fun h1 => ?_) (fun h1 => ?_)
  · walk_at "go"
    have e : toldL false (x.length - c) (y.drop c) = [46] := by
      rw [← hc, h1, shN_self]
      simp [toldL, toldParts]
    rw [e]
    rw [decide_eq_true rfl]
    exact q _
  walk_at "go"
  refine i_l_plain_steps hand (by simp; omega) fun w H9 s9 n9 hw => ?_
  have htll := toldL_len (r := false) (u := x.length - c) hand
  have hdl : (y.drop c).length = y.length - c := by simp
  have hroot := told_root (u := x.length - c) hand false
  walk_at "go"
  refine i_ifD (fun h2 => nomatch h2) (fun _ => ?_)
  walk_at "go"
  rw [cutN_t1]
  refine i_ifD (fun h2 => absurd (hroot.mp h2) (by decide)) (fun _ => ?_)
  walk_at "go"
  intro D9 hD9
  have s10 : Same H9 (upd H9 D9 (.dK [])) := same_new hD9
  have hD10 : DictM placeR (upd H9 D9 (.dK [])) D9 ([] : List (List Nat × Place)) := ⟨[], upd_same, .nil⟩
  generalize upd H9 D9 (.dK []) = H10 at *
  have hsl := toldSteps_len false (x.length - c) (y.drop c)
  have s11 := s9.trans s10
  walk_at "go"
  refine i_l_walk (places := []) (SqL.of (s11 _ _ mS)) (hw.same s10) hD10.at (by omega) (fun n p h => nomatch h) (walk_told _ false _ _ _) fun r2 H12 s12 n12 h12 => ?_
  have e12 : (if false = true then y.drop c else x.take (x.length - (x.length - c)) ++ y.drop c) = y := by
    rw [if_neg (by decide)]
    have : x.length - (x.length - c) = c := by omega
    rw [this, htk, List.take_append_drop]
  rw [e12] at h12
  have mG12 := (s11.trans s12) _ _ mG
  walk_at "go"
  refine i_neLL (SqL.of h12) (SqL.of mG12) cy cy ?_
  walk_at "go"
  refine i_l_as_told ((hw.same s10).same s12) hand (by omega) (fun z => by cases z) fun H13 s13 => ?_
  have mS13 := ((s11.trans s12).trans s13) _ _ mS
  have mG13 := s13 _ _ mG12
  obtain ⟨us, hus, husl⟩ := steps_len (((hw.same s10).same s12).same s13)
  have hsl2 : (toldSteps false (x.length - c) (y.drop c)).length = x.length - c + (y.length - c) := by simp [toldSteps]
  walk_at "go"
  have hSl := SqL.of (K := K) mS13
  have hUl := SqL.of (K := K) hus
  have hGl := SqL.of (K := K) mG13
  refine ⟨fun m σ H' => ∃ i : Nat, σ = [some (.ref a), some (.int (cellAt ns (Int.toNat 0))), some (.ref P0), some (.int second), some (.ref S), some (.ref G), some (.ref T), some (vS (toldL false (x.length - c) (y.drop c))), some (.ref w), some (.int (i : Int)), none] ∧ H' = H13 ∧ m = x.length - i ∧ i ≤ x.length ∧ i ≤ y.length ∧ x.take i = y.take i,
    ⟨x.length, 0, rfl, rfl, rfl, Nat.zero_le _, Nat.zero_le _, rfl⟩, ?_⟩
  rintro m σ H' ⟨i, rfl, rfl, rfl, hi1, hi2, et⟩
  walk_at "go"
  rw [List.length_map, List.length_map]
  refine i_min ?_
  walk_at "go"
  refine i_ifD (fun h2 => ?_) (fun h2 => ?_)
  · have hix : i < x.length := by
      split at h2 <;> omega
    have hiy : i < y.length := by
      split at h2 <;> omega
    have gx := get_lt hix
    have gy := get_lt hiy
    walk_at "go"
    refine i_ixL (i := i) (v := vS x[i]) rfl hSl (by rw [List.getElem?_map, gx]; rfl) ?_
    walk_at "go"
    refine i_ixL (i := i) (v := vS y[i]) rfl hGl (by rw [List.getElem?_map, gy]; rfl) ?_
    walk_at "go"
    refine i_ifD (fun h3 => ?_) (fun h3 => ?_)
    · refine ⟨_, fun _ _ h => h, ?_⟩
      walk_at "go"
      exact ⟨x.length - (i + 1), by omega, i + 1, rfl, rfl, rfl, hix, hiy, by rw [take_snoc gx, take_snoc gy, et, h3]⟩
    · walk_at "go"
      have hic : i = c := by
        rw [← hc]
        exact (shN_at et gx gy h3).symm
      rw [List.length_map, List.length_map, decide_eq_true (by have := hends c rfl; omega)]
      exact q _
  · walk_at "go"
    have hic : i = c := by
      rw [← hc]
      refine (shN_end et hi1 hi2 ?_).symm
      split at h2 <;> omega
    rw [List.length_map, List.length_map, decide_eq_true (by have := hends c rfl; omega)]
    exact q _
end


end Pw
namespace Pw
open PySem PySem.Spec PyProof.Rows L2
def topS (i : Nat) : Stmt := PySem.Challenge.pw_plainway_k09_the_way_there.main.body.getD i (.Pass ⟨0, 0, 0, 0⟩)
abbrev s_l_of : Stmt := topS 10
abbrev s_l_signs : Stmt := topS 11
abbrev s_l_name_by : Stmt := topS 13
abbrev s_l_place_by : Stmt := topS 17
abbrev s_p_shared : Stmt := topS 7
abbrev s_p_escaped : Stmt := topS 2
abbrev s_p_written : Stmt := topS 3
abbrev s_p_told : Stmt := topS 5
abbrev s_p_way : Stmt := topS 8
abbrev s_l_read : Stmt := topS 14
abbrev s_l_plain_steps : Stmt := topS 15
abbrev s_l_cells : Stmt := topS 18
abbrev s_l_must : Stmt := topS 19
abbrev s_l_escape : Stmt := topS 12
abbrev s_l_due_part : Stmt := topS 20
abbrev s_l_as_told : Stmt := topS 21
abbrev s_l_walk : Stmt := topS 16
abbrev s_law_k09 : Stmt := topS 22
theorem lit_110_97_109_101 : (Str.ofString "name") = S [110, 97, 109, 101] := by decide +kernel
theorem lit_114_111_111_116 : (Str.ofString "root") = S [114, 111, 111, 116] := by decide +kernel
theorem lit_115_104_97_114_101 : (Str.ofString "share") = S [115, 104, 97, 114, 101] := by decide +kernel
theorem lit_117_112 : (Str.ofString "up") = S [117, 112] := by decide +kernel
theorem lit_123_124_125_126 : (Str.ofString "{|}~") = S [123, 124, 125, 126] := by decide +kernel
theorem lit_126 : (Str.ofString "~") = S [126] := by decide +kernel
theorem lit_126_49_51 : (Str.ofString "~13") = S [126, 49, 51] := by decide +kernel
theorem lit_32 : (Str.ofString " ") = S [32] := by decide +kernel
theorem lit_46 : (Str.ofString ".") = S [46] := by decide +kernel
theorem lit_46_46 : (Str.ofString "..") = S [46, 46] := by decide +kernel
theorem lit_46_46_46 : (Str.ofString "...") = S [46, 46, 46] := by decide +kernel
theorem lit_46_46_97 : (Str.ofString "..a") = S [46, 46, 97] := by decide +kernel
theorem lit_46_97 : (Str.ofString ".a") = S [46, 97] := by decide +kernel
theorem lit_47 : (Str.ofString "/") = S [47] := by decide +kernel
theorem lit_58_59_60_61_62_63_64 : (Str.ofString ":;<=>?@") = S [58, 59, 60, 61, 62, 63, 64] := by decide +kernel
theorem lit_64 : (Str.ofString "@") = S [64] := by decide +kernel
theorem lit_64_97 : (Str.ofString "@a") = S [64, 97] := by decide +kernel
theorem lit_91_92_93_94_95_96 : (Str.ofString "[\\]^_`") = S [91, 92, 93, 94, 95, 96] := by decide +kernel
theorem lit_97 : (Str.ofString "a") = S [97] := by decide +kernel
theorem lit_97_47_98 : (Str.ofString "a/b") = S [97, 47, 98] := by decide +kernel
theorem lit_98 : (Str.ofString "b") = S [98] := by decide +kernel
theorem lit_h28665 : (Str.ofString "ABCDEFGHIJKLMNOPQRSTUVWXYZ") = S [65, 66, 67, 68, 69, 70, 71, 72, 73, 74, 75, 76, 77, 78, 79, 80, 81, 82, 83, 84, 85, 86, 87, 88, 89, 90] := by decide +kernel
theorem lit_h2970 : (Str.ofString "0123456789") = S [48, 49, 50, 51, 52, 53, 54, 55, 56, 57] := by decide +kernel
theorem lit_h39897 : (Str.ofString "abcdefghijklmnopqrstuvwxyz") = S [97, 98, 99, 100, 101, 102, 103, 104, 105, 106, 107, 108, 109, 110, 111, 112, 113, 114, 115, 116, 117, 118, 119, 120, 121, 122] := by decide +kernel
theorem lit_h5065 : (Str.ofString " !\"#$&'()*+,-./") = S [32, 33, 34, 35, 36, 38, 39, 40, 41, 42, 43, 44, 45, 46, 47] := by decide +kernel
theorem lit_nil : (Str.ofString "") = S [] := by decide +kernel
theorem sc_l_of : FnScope ["_law_script", "_law_k"] ["_law_script", "_law_k"] (defScope s_l_of) := ⟨rfl, rfl, rfl, by decide +kernel, rfl, by decide +kernel, by decide +kernel⟩
theorem sc_l_signs : FnScope ["_law_some"] [] (defScope s_l_signs) := ⟨rfl, rfl, rfl, by decide +kernel, rfl, by decide +kernel, by decide +kernel⟩
theorem sc_l_name_by : FnScope ["_law_cell", "_law_odd", "_law_size", "_law_name", "_law_k"] ["_law_cell"] (defScope s_l_name_by) := ⟨rfl, rfl, rfl, by decide +kernel, rfl, by decide +kernel, by decide +kernel⟩
theorem sc_l_place_by : FnScope ["_law_cells_here", "_law_cell"] ["_law_cells_here"] (defScope s_l_place_by) := ⟨rfl, rfl, rfl, by decide +kernel, rfl, by decide +kernel, by decide +kernel⟩
theorem sc_p_shared : FnScope ["one", "other", "count", "left", "right"] ["one", "other"] (defScope s_p_shared) := ⟨rfl, rfl, rfl, by decide +kernel, rfl, by decide +kernel, by decide +kernel⟩
theorem sc_p_escaped : FnScope ["sign"] ["sign"] (defScope s_p_escaped) := ⟨rfl, rfl, rfl, by decide +kernel, rfl, by decide +kernel, by decide +kernel⟩
theorem sc_p_written : FnScope ["name", "found", "at", "sign", "ahead"] ["name"] (defScope s_p_written) := ⟨rfl, rfl, rfl, by decide +kernel, rfl, by decide +kernel, by decide +kernel⟩
theorem sc_p_told : FnScope ["rooted", "ups", "names", "parts", "name"] ["rooted", "ups", "names"] (defScope s_p_told) := ⟨rfl, rfl, rfl, by decide +kernel, rfl, by decide +kernel, by decide +kernel⟩
theorem sc_p_way : FnScope ["start", "goal", "count"] ["start", "goal"] (defScope s_p_way) := ⟨rfl, rfl, rfl, by decide +kernel, rfl, by decide +kernel, by decide +kernel⟩
theorem sc_l_read : FnScope ["_law_part", "_law_found", "_law_k", "_law_two"] ["_law_part"] (defScope s_l_read) := ⟨rfl, rfl, rfl, by decide +kernel, rfl, by decide +kernel, by decide +kernel⟩
theorem sc_l_plain_steps : FnScope ["_law_line", "_law_steps", "_law_part", "_law_name"] ["_law_line"] (defScope s_l_plain_steps) := ⟨rfl, rfl, rfl, by decide +kernel, rfl, by decide +kernel, by decide +kernel⟩
theorem sc_l_cells : FnScope ["_law_script", "_law_start", "_law_many", "_law_far", "_law_k"] ["_law_script", "_law_start", "_law_many", "_law_far"] (defScope s_l_cells) := ⟨rfl, rfl, rfl, by decide +kernel, rfl, by decide +kernel, by decide +kernel⟩
theorem sc_l_must : FnScope ["_law_name", "_law_k"] ["_law_name", "_law_k"] (defScope s_l_must) := ⟨rfl, rfl, rfl, by decide +kernel, rfl, by decide +kernel, by decide +kernel⟩
theorem sc_l_escape : FnScope ["_law_sign", "_law_number"] ["_law_sign"] (defScope s_l_escape) := ⟨rfl, rfl, rfl, by decide +kernel, rfl, by decide +kernel, by decide +kernel⟩
theorem sc_l_due_part : FnScope ["_law_name", "_law_found", "_law_k"] ["_law_name"] (defScope s_l_due_part) := ⟨rfl, rfl, rfl, by decide +kernel, rfl, by decide +kernel, by decide +kernel⟩
theorem sc_l_as_told : FnScope ["_law_line", "_law_steps", "_law_ups", "_law_names", "_law_parts", "_law_step", "_law_name"] ["_law_line", "_law_steps"] (defScope s_l_as_told) := ⟨rfl, rfl, rfl, by decide +kernel, rfl, by decide +kernel, by decide +kernel⟩
theorem sc_l_walk : FnScope ["_law_place", "_law_steps", "_law_places", "_law_step"] ["_law_place", "_law_steps", "_law_places"] (defScope s_l_walk) := ⟨rfl, rfl, rfl, by decide +kernel, rfl, by decide +kernel, by decide +kernel⟩
theorem sc_law_k09 : FnScope ["_law_script", "_law_first", "_law_common", "_law_second", "_law_start", "_law_goal", "_law_handed", "_law_found", "_law_steps", "_law_count", "_law_k"] ["_law_script"] (defScope s_law_k09) := ⟨rfl, rfl, rfl, by decide +kernel, rfl, by decide +kernel, by decide +kernel⟩
structure Txt (K : PySem.W.Frag) (mg : Str → Option Value) (C : Ad) : Prop where
  F_l_of : ∃ f fd, Fun K "_law_of" "_law_of" s_l_of f fd ∧ mg "_law_of" = some (.ref f) ∧ Binds K fd ["_law_script", "_law_k"] []
  F_l_signs : ∃ f fd, Fun K "_law_signs" "_law_signs" s_l_signs f fd ∧ mg "_law_signs" = some (.ref f) ∧ Binds K fd [] []
  F_l_name_by : ∃ f fd, Fun K "_law_name_by" "_law_name_by" s_l_name_by f fd ∧ mg "_law_name_by" = some (.ref f) ∧ Binds K fd ["_law_cell"] []
  F_l_place_by : ∃ f fd, Fun K "_law_place_by" "_law_place_by" s_l_place_by f fd ∧ mg "_law_place_by" = some (.ref f) ∧ Binds K fd ["_law_cells_here"] []
  F_p_shared : ∃ f fd, Fun K "shared" "shared" s_p_shared f fd ∧ mg "shared" = some (.ref f) ∧ Binds K fd ["one", "other"] []
  F_p_escaped : ∃ f fd, Fun K "escaped" "escaped" s_p_escaped f fd ∧ mg "escaped" = some (.ref f) ∧ Binds K fd ["sign"] []
  F_p_written : ∃ f fd, Fun K "written" "written" s_p_written f fd ∧ mg "written" = some (.ref f) ∧ Binds K fd ["name"] []
  F_p_told : ∃ f fd, Fun K "told" "told" s_p_told f fd ∧ mg "told" = some (.ref f) ∧ Binds K fd ["rooted", "ups", "names"] []
  F_p_way : ∃ f fd, Fun K "way" "way" s_p_way f fd ∧ mg "way" = some (.ref f) ∧ Binds K fd ["start", "goal"] []
  F_l_read : ∃ f fd, Fun K "_law_read" "_law_read" s_l_read f fd ∧ mg "_law_read" = some (.ref f) ∧ Binds K fd ["_law_part"] []
  F_l_plain_steps : ∃ f fd, Fun K "_law_plain_steps" "_law_plain_steps" s_l_plain_steps f fd ∧ mg "_law_plain_steps" = some (.ref f) ∧ Binds K fd ["_law_line"] []
  F_l_cells : ∃ f fd, Fun K "_law_cells" "_law_cells" s_l_cells f fd ∧ mg "_law_cells" = some (.ref f) ∧ Binds K fd ["_law_script", "_law_start", "_law_many", "_law_far"] []
  F_l_must : ∃ f fd, Fun K "_law_must" "_law_must" s_l_must f fd ∧ mg "_law_must" = some (.ref f) ∧ Binds K fd ["_law_name", "_law_k"] []
  F_l_escape : ∃ f fd, Fun K "_law_escape" "_law_escape" s_l_escape f fd ∧ mg "_law_escape" = some (.ref f) ∧ Binds K fd ["_law_sign"] []
  F_l_due_part : ∃ f fd, Fun K "_law_due_part" "_law_due_part" s_l_due_part f fd ∧ mg "_law_due_part" = some (.ref f) ∧ Binds K fd ["_law_name"] []
  F_l_as_told : ∃ f fd, Fun K "_law_as_told" "_law_as_told" s_l_as_told f fd ∧ mg "_law_as_told" = some (.ref f) ∧ Binds K fd ["_law_line", "_law_steps"] []
  F_l_walk : ∃ f fd, Fun K "_law_walk" "_law_walk" s_l_walk f fd ∧ mg "_law_walk" = some (.ref f) ∧ Binds K fd ["_law_place", "_law_steps", "_law_places"] []
  F_law_k09 : ∃ f fd, Fun K "law" "law" s_law_k09 f fd ∧ mg "law" = some (.ref f) ∧ Binds K fd ["_law_script"] []
  g_SIGNS : ∃ u, mg "SIGNS" = some u ∧ RelV (vS signs) u
  z_enumerate : mg "enumerate" = none
  z_int : mg "int" = none
  z_isinstance : mg "isinstance" = none
  z_len : mg "len" = none
  z_list : mg "list" = none
  z_min : mg "min" = none
  z_range : mg "range" = none
  z_str : mg "str" = none
  z_zip : mg "zip" = none
section
variable {P : Program} {w : World} {K : PySem.W.Frag} {mg : Str → Option Value} {base : Heap} {C : Ad}
def raw (sp : Sp) : Sp := fun vs H2 Q2 E => ∃ H Q, H2 = noDT H ∧ Q2 = Fgt H Q ∧ sp vs H Q E
def rawX (sp : Sp) : Sp := fun vs H2 Q2 E2 => ∃ H Q E, H2 = noDT H ∧ Q2 = Fgt H Q ∧ E2 = (fun cls d H1 => Same (noDT H) H1 ∧ E cls d H) ∧ sp vs H Q E
theorem len_l_of {vs : List V} {H : Hp} {Q : VK} {E : XK} (h : sp_l_of K C vs H Q E) : vs.length = 2 := by
  first
    | (obtain ⟨rfl, _⟩ := h; rfl)
    | (obtain ⟨_, rfl, _⟩ := h; rfl)
    | (obtain ⟨_, _, rfl, _⟩ := h; rfl)
    | (obtain ⟨_, _, _, rfl, _⟩ := h; rfl)
    | (obtain ⟨_, _, _, _, rfl, _⟩ := h; rfl)
    | (obtain ⟨_, _, _, _, _, rfl, _⟩ := h; rfl)
    | (obtain ⟨_, _, _, _, _, _, rfl, _⟩ := h; rfl)
    | (obtain ⟨_, _, _, _, _, _, _, rfl, _⟩ := h; rfl)
theorem len_l_signs {vs : List V} {H : Hp} {Q : VK} {E : XK} (h : sp_l_signs K C vs H Q E) : vs.length = 0 := by
  first
    | (obtain ⟨rfl, _⟩ := h; rfl)
    | (obtain ⟨_, rfl, _⟩ := h; rfl)
    | (obtain ⟨_, _, rfl, _⟩ := h; rfl)
    | (obtain ⟨_, _, _, rfl, _⟩ := h; rfl)
    | (obtain ⟨_, _, _, _, rfl, _⟩ := h; rfl)
    | (obtain ⟨_, _, _, _, _, rfl, _⟩ := h; rfl)
    | (obtain ⟨_, _, _, _, _, _, rfl, _⟩ := h; rfl)
    | (obtain ⟨_, _, _, _, _, _, _, rfl, _⟩ := h; rfl)
theorem len_l_name_by {vs : List V} {H : Hp} {Q : VK} {E : XK} (h : sp_l_name_by K C vs H Q E) : vs.length = 1 := by
  first
    | (obtain ⟨rfl, _⟩ := h; rfl)
    | (obtain ⟨_, rfl, _⟩ := h; rfl)
    | (obtain ⟨_, _, rfl, _⟩ := h; rfl)
    | (obtain ⟨_, _, _, rfl, _⟩ := h; rfl)
    | (obtain ⟨_, _, _, _, rfl, _⟩ := h; rfl)
    | (obtain ⟨_, _, _, _, _, rfl, _⟩ := h; rfl)
    | (obtain ⟨_, _, _, _, _, _, rfl, _⟩ := h; rfl)
    | (obtain ⟨_, _, _, _, _, _, _, rfl, _⟩ := h; rfl)
theorem len_l_place_by {vs : List V} {H : Hp} {Q : VK} {E : XK} (h : sp_l_place_by K C vs H Q E) : vs.length = 1 := by
  first
    | (obtain ⟨rfl, _⟩ := h; rfl)
    | (obtain ⟨_, rfl, _⟩ := h; rfl)
    | (obtain ⟨_, _, rfl, _⟩ := h; rfl)
    | (obtain ⟨_, _, _, rfl, _⟩ := h; rfl)
    | (obtain ⟨_, _, _, _, rfl, _⟩ := h; rfl)
    | (obtain ⟨_, _, _, _, _, rfl, _⟩ := h; rfl)
    | (obtain ⟨_, _, _, _, _, _, rfl, _⟩ := h; rfl)
    | (obtain ⟨_, _, _, _, _, _, _, rfl, _⟩ := h; rfl)
theorem len_p_shared {vs : List V} {H : Hp} {Q : VK} {E : XK} (h : sp_p_shared K C vs H Q E) : vs.length = 2 := by
  first
    | (obtain ⟨rfl, _⟩ := h; rfl)
    | (obtain ⟨_, rfl, _⟩ := h; rfl)
    | (obtain ⟨_, _, rfl, _⟩ := h; rfl)
    | (obtain ⟨_, _, _, rfl, _⟩ := h; rfl)
    | (obtain ⟨_, _, _, _, rfl, _⟩ := h; rfl)
    | (obtain ⟨_, _, _, _, _, rfl, _⟩ := h; rfl)
    | (obtain ⟨_, _, _, _, _, _, rfl, _⟩ := h; rfl)
    | (obtain ⟨_, _, _, _, _, _, _, rfl, _⟩ := h; rfl)
theorem len_p_escaped {vs : List V} {H : Hp} {Q : VK} {E : XK} (h : sp_p_escaped K C vs H Q E) : vs.length = 1 := by
  first
    | (obtain ⟨rfl, _⟩ := h; rfl)
    | (obtain ⟨_, rfl, _⟩ := h; rfl)
    | (obtain ⟨_, _, rfl, _⟩ := h; rfl)
    | (obtain ⟨_, _, _, rfl, _⟩ := h; rfl)
    | (obtain ⟨_, _, _, _, rfl, _⟩ := h; rfl)
    | (obtain ⟨_, _, _, _, _, rfl, _⟩ := h; rfl)
    | (obtain ⟨_, _, _, _, _, _, rfl, _⟩ := h; rfl)
    | (obtain ⟨_, _, _, _, _, _, _, rfl, _⟩ := h; rfl)
theorem len_p_written {vs : List V} {H : Hp} {Q : VK} {E : XK} (h : sp_p_written K C vs H Q E) : vs.length = 1 := by
  first
    | (obtain ⟨rfl, _⟩ := h; rfl)
    | (obtain ⟨_, rfl, _⟩ := h; rfl)
    | (obtain ⟨_, _, rfl, _⟩ := h; rfl)
    | (obtain ⟨_, _, _, rfl, _⟩ := h; rfl)
    | (obtain ⟨_, _, _, _, rfl, _⟩ := h; rfl)
    | (obtain ⟨_, _, _, _, _, rfl, _⟩ := h; rfl)
    | (obtain ⟨_, _, _, _, _, _, rfl, _⟩ := h; rfl)
    | (obtain ⟨_, _, _, _, _, _, _, rfl, _⟩ := h; rfl)
theorem len_p_told {vs : List V} {H : Hp} {Q : VK} {E : XK} (h : sp_p_told K C vs H Q E) : vs.length = 3 := by
  first
    | (obtain ⟨rfl, _⟩ := h; rfl)
    | (obtain ⟨_, rfl, _⟩ := h; rfl)
    | (obtain ⟨_, _, rfl, _⟩ := h; rfl)
    | (obtain ⟨_, _, _, rfl, _⟩ := h; rfl)
    | (obtain ⟨_, _, _, _, rfl, _⟩ := h; rfl)
    | (obtain ⟨_, _, _, _, _, rfl, _⟩ := h; rfl)
    | (obtain ⟨_, _, _, _, _, _, rfl, _⟩ := h; rfl)
    | (obtain ⟨_, _, _, _, _, _, _, rfl, _⟩ := h; rfl)
theorem len_p_way {vs : List V} {H : Hp} {Q : VK} {E : XK} (h : sp_p_way K C vs H Q E) : vs.length = 2 := by
  first
    | (obtain ⟨rfl, _⟩ := h; rfl)
    | (obtain ⟨_, rfl, _⟩ := h; rfl)
    | (obtain ⟨_, _, rfl, _⟩ := h; rfl)
    | (obtain ⟨_, _, _, rfl, _⟩ := h; rfl)
    | (obtain ⟨_, _, _, _, rfl, _⟩ := h; rfl)
    | (obtain ⟨_, _, _, _, _, rfl, _⟩ := h; rfl)
    | (obtain ⟨_, _, _, _, _, _, rfl, _⟩ := h; rfl)
    | (obtain ⟨_, _, _, _, _, _, _, rfl, _⟩ := h; rfl)
theorem len_l_read {vs : List V} {H : Hp} {Q : VK} {E : XK} (h : sp_l_read K C vs H Q E) : vs.length = 1 := by
  first
    | (obtain ⟨rfl, _⟩ := h; rfl)
    | (obtain ⟨_, rfl, _⟩ := h; rfl)
    | (obtain ⟨_, _, rfl, _⟩ := h; rfl)
    | (obtain ⟨_, _, _, rfl, _⟩ := h; rfl)
    | (obtain ⟨_, _, _, _, rfl, _⟩ := h; rfl)
    | (obtain ⟨_, _, _, _, _, rfl, _⟩ := h; rfl)
    | (obtain ⟨_, _, _, _, _, _, rfl, _⟩ := h; rfl)
    | (obtain ⟨_, _, _, _, _, _, _, rfl, _⟩ := h; rfl)
theorem len_l_plain_steps {vs : List V} {H : Hp} {Q : VK} {E : XK} (h : sp_l_plain_steps K C vs H Q E) : vs.length = 1 := by
  first
    | (obtain ⟨rfl, _⟩ := h; rfl)
    | (obtain ⟨_, rfl, _⟩ := h; rfl)
    | (obtain ⟨_, _, rfl, _⟩ := h; rfl)
    | (obtain ⟨_, _, _, rfl, _⟩ := h; rfl)
    | (obtain ⟨_, _, _, _, rfl, _⟩ := h; rfl)
    | (obtain ⟨_, _, _, _, _, rfl, _⟩ := h; rfl)
    | (obtain ⟨_, _, _, _, _, _, rfl, _⟩ := h; rfl)
    | (obtain ⟨_, _, _, _, _, _, _, rfl, _⟩ := h; rfl)
theorem len_l_cells {vs : List V} {H : Hp} {Q : VK} {E : XK} (h : sp_l_cells K C vs H Q E) : vs.length = 4 := by
  first
    | (obtain ⟨rfl, _⟩ := h; rfl)
    | (obtain ⟨_, rfl, _⟩ := h; rfl)
    | (obtain ⟨_, _, rfl, _⟩ := h; rfl)
    | (obtain ⟨_, _, _, rfl, _⟩ := h; rfl)
    | (obtain ⟨_, _, _, _, rfl, _⟩ := h; rfl)
    | (obtain ⟨_, _, _, _, _, rfl, _⟩ := h; rfl)
    | (obtain ⟨_, _, _, _, _, _, rfl, _⟩ := h; rfl)
    | (obtain ⟨_, _, _, _, _, _, _, rfl, _⟩ := h; rfl)
theorem len_l_must {vs : List V} {H : Hp} {Q : VK} {E : XK} (h : sp_l_must K C vs H Q E) : vs.length = 2 := by
  first
    | (obtain ⟨rfl, _⟩ := h; rfl)
    | (obtain ⟨_, rfl, _⟩ := h; rfl)
    | (obtain ⟨_, _, rfl, _⟩ := h; rfl)
    | (obtain ⟨_, _, _, rfl, _⟩ := h; rfl)
    | (obtain ⟨_, _, _, _, rfl, _⟩ := h; rfl)
    | (obtain ⟨_, _, _, _, _, rfl, _⟩ := h; rfl)
    | (obtain ⟨_, _, _, _, _, _, rfl, _⟩ := h; rfl)
    | (obtain ⟨_, _, _, _, _, _, _, rfl, _⟩ := h; rfl)
theorem len_l_escape {vs : List V} {H : Hp} {Q : VK} {E : XK} (h : sp_l_escape K C vs H Q E) : vs.length = 1 := by
  first
    | (obtain ⟨rfl, _⟩ := h; rfl)
    | (obtain ⟨_, rfl, _⟩ := h; rfl)
    | (obtain ⟨_, _, rfl, _⟩ := h; rfl)
    | (obtain ⟨_, _, _, rfl, _⟩ := h; rfl)
    | (obtain ⟨_, _, _, _, rfl, _⟩ := h; rfl)
    | (obtain ⟨_, _, _, _, _, rfl, _⟩ := h; rfl)
    | (obtain ⟨_, _, _, _, _, _, rfl, _⟩ := h; rfl)
    | (obtain ⟨_, _, _, _, _, _, _, rfl, _⟩ := h; rfl)
theorem len_l_due_part {vs : List V} {H : Hp} {Q : VK} {E : XK} (h : sp_l_due_part K C vs H Q E) : vs.length = 1 := by
  first
    | (obtain ⟨rfl, _⟩ := h; rfl)
    | (obtain ⟨_, rfl, _⟩ := h; rfl)
    | (obtain ⟨_, _, rfl, _⟩ := h; rfl)
    | (obtain ⟨_, _, _, rfl, _⟩ := h; rfl)
    | (obtain ⟨_, _, _, _, rfl, _⟩ := h; rfl)
    | (obtain ⟨_, _, _, _, _, rfl, _⟩ := h; rfl)
    | (obtain ⟨_, _, _, _, _, _, rfl, _⟩ := h; rfl)
    | (obtain ⟨_, _, _, _, _, _, _, rfl, _⟩ := h; rfl)
theorem len_l_as_told {vs : List V} {H : Hp} {Q : VK} {E : XK} (h : sp_l_as_told K C vs H Q E) : vs.length = 2 := by
  first
    | (obtain ⟨rfl, _⟩ := h; rfl)
    | (obtain ⟨_, rfl, _⟩ := h; rfl)
    | (obtain ⟨_, _, rfl, _⟩ := h; rfl)
    | (obtain ⟨_, _, _, rfl, _⟩ := h; rfl)
    | (obtain ⟨_, _, _, _, rfl, _⟩ := h; rfl)
    | (obtain ⟨_, _, _, _, _, rfl, _⟩ := h; rfl)
    | (obtain ⟨_, _, _, _, _, _, rfl, _⟩ := h; rfl)
    | (obtain ⟨_, _, _, _, _, _, _, rfl, _⟩ := h; rfl)
theorem len_l_walk {vs : List V} {H : Hp} {Q : VK} {E : XK} (h : sp_l_walk K C vs H Q E) : vs.length = 3 := by
  first
    | (obtain ⟨rfl, _⟩ := h; rfl)
    | (obtain ⟨_, rfl, _⟩ := h; rfl)
    | (obtain ⟨_, _, rfl, _⟩ := h; rfl)
    | (obtain ⟨_, _, _, rfl, _⟩ := h; rfl)
    | (obtain ⟨_, _, _, _, rfl, _⟩ := h; rfl)
    | (obtain ⟨_, _, _, _, _, rfl, _⟩ := h; rfl)
    | (obtain ⟨_, _, _, _, _, _, rfl, _⟩ := h; rfl)
    | (obtain ⟨_, _, _, _, _, _, _, rfl, _⟩ := h; rfl)
theorem len_law {vs : List V} {H : Hp} {Q : VK} {E : XK} (h : sp_law K C vs H Q E) : vs.length = 1 := by
  first
    | (obtain ⟨rfl, _⟩ := h; rfl)
    | (obtain ⟨_, rfl, _⟩ := h; rfl)
    | (obtain ⟨_, _, rfl, _⟩ := h; rfl)
    | (obtain ⟨_, _, _, rfl, _⟩ := h; rfl)
    | (obtain ⟨_, _, _, _, rfl, _⟩ := h; rfl)
    | (obtain ⟨_, _, _, _, _, rfl, _⟩ := h; rfl)
    | (obtain ⟨_, _, _, _, _, _, rfl, _⟩ := h; rfl)
    | (obtain ⟨_, _, _, _, _, _, _, rfl, _⟩ := h; rfl)
theorem ok_l_of (T : Txt K mg C) : Fn P w K mg base CX0 1 "_law_of" (sp_l_of K C) := by
  obtain ⟨f, fd, F, hm, hb⟩ := T.F_l_of
  have G : FnOk P w K mg base CX0 1 f fd ["_law_script", "_law_k"] (raw (sp_l_of K C)) := by
    refine F.ok sc_l_of (fun vs H Q E h => ?_) (fun cdv A outer s H vs Q E hr h => ?_)
    · obtain ⟨H0, Q0, rfl, rfl, h⟩ := h
      exact len_l_of h
    · obtain ⟨H0, Q0, rfl, rfl, h⟩ := h
      have hu := hu_of hr
      refine ⟨t_l_of K C E, ?_, rd_l_of h⟩
      exact (pss_one (ps_ret (pe_ix ix_L (pe_op op_cat (pe_slice sl_L (pv 0) (po_some (pv 1)) (po_some (pe_op op_add1 (pv 1) pe_int))) (pe_lst (pa_cons pe_int pa_nil))) pe_int (fun _ _ => rfl))))
  exact Fn.of F hm hb (FnOk.forget G fun vs H Q E h => ⟨H, Q, rfl, rfl, h⟩)
theorem ok_l_signs (T : Txt K mg C) : Fn P w K mg base CX0 1 "_law_signs" (sp_l_signs K C) := by
  obtain ⟨f, fd, F, hm, hb⟩ := T.F_l_signs
  have G : FnOk P w K mg base CX0 1 f fd [] (sp_l_signs K C) := by
    refine F.ok sc_l_signs (fun vs H Q E h => ?_) (fun cdv A outer s H vs Q E hr h => ?_)
    · exact len_l_signs h
    · skip
      have hu := hu_of hr
      refine ⟨t_l_signs K C E, ?_, rd_l_signs h⟩
      exact (pss_cons (ps_set (i := 0) sc_l_signs.nd rfl (.inl rfl) (pe_op op_addS (pe_op op_addS (pe_lit _ lit_h5065) (pe_lit _ lit_h2970)) (pe_lit _ lit_58_59_60_61_62_63_64)))
        (pss_cons (ps_set (i := 0) sc_l_signs.nd rfl (.inl rfl) (pe_op op_addS (pe_op op_addS (pv 0) (pe_lit _ lit_h28665)) (pe_lit _ lit_91_92_93_94_95_96)))
        (pss_one (ps_ret (pe_op op_addS (pe_op op_addS (pv 0) (pe_lit _ lit_h39897)) (pe_lit _ lit_123_124_125_126))))))
  exact Fn.of F hm hb G
theorem ok_l_name_by (T : Txt K mg C) : Fn P w K mg base CX0 2 "_law_name_by" (sp_l_name_by K C) := by
  obtain ⟨f, fd, F, hm, hb⟩ := T.F_l_name_by
  have G : FnOk P w K mg base CX0 2 f fd ["_law_cell"] (raw (sp_l_name_by K C)) := by
    refine F.ok sc_l_name_by (fun vs H Q E h => ?_) (fun cdv A outer s H vs Q E hr h => ?_)
    · obtain ⟨H0, Q0, rfl, rfl, h⟩ := h
      exact len_l_name_by h
    · obtain ⟨H0, Q0, rfl, rfl, h⟩ := h
      have hu := hu_of hr
      refine ⟨t_l_name_by K C E, ?_, rd_l_name_by h⟩
      exact (pss_cons (ps_set (i := 1) sc_l_name_by.nd rfl (.inl rfl) (pe_lst (pa_cons (pe_lit _ lit_46) (pa_cons (pe_lit _ lit_46_46) (pa_cons (pe_lit _ lit_126) (pa_cons (pe_lit _ lit_47) (pa_cons (pe_lit _ lit_64) (pa_cons (pe_lit _ lit_64_97) (pa_cons (pe_lit _ lit_97) (pa_cons (pe_lit _ lit_98) (pa_cons (pe_lit _ lit_46_46_46) (pa_cons (pe_lit _ lit_46_97) (pa_cons (pe_lit _ lit_126_49_51) (pa_cons (pe_lit _ lit_97_47_98) (pa_cons (pe_lit _ lit_32) (pa_cons (pe_lit _ lit_46_46_97) pa_nil))))))))))))))))
        (pss_cons (ps_if (pt_cmpR op_eqI (pe_op op_mod' (pv 0) pe_int) pe_int (nomark _))
        (pss_one (ps_ret (pe_ix ix_L (pv 1) (pe_op op_mod' (pe_op op_div' (pv 0) pe_int) pe_int) (fun _ _ => rfl))))
        pss_nil)
        (pss_cons (ps_set (i := 2) sc_l_name_by.nd rfl (.inl rfl) (pe_op op_add1 pe_int (pe_op op_mod' (pe_op op_div' (pv 0) pe_int) pe_int)))
        (C8.pss_cut (ps_if (pt_cmpR op_eqI (pe_op op_mod' (pe_op op_div' (pv 0) pe_int) pe_int) pe_int (nomark _))
        (pss_one (ps_set (i := 2) sc_l_name_by.nd rfl (.inl rfl) (pe_op op_add1 (pv 2) (pe_op op_mod' (pe_op op_div' (pv 0) pe_int) pe_int))))
        pss_nil)
        (pss_cons (ps_set (i := 3) sc_l_name_by.nd rfl (.inl rfl) (pe_lit _ lit_nil))
        (pss_cons (ps_for PassesOwn.never rfl (pi_range1 (by rfl) T.z_range (pa_cons (pv 2) pa_nil)) (pg_name (i := 4) sc_l_name_by.nd rfl (.inl rfl))
        (pss_one (ps_set (i := 3) sc_l_name_by.nd rfl (.inl rfl) (pe_op op_addS (pv 3) (pe_ix ix_S (pe_fn00 (ok_l_signs T) hr (by decide) rfl) (pe_op op_mod' (pe_op op_div' (pe_op op_mod' (pe_op op_mulR' (pe_op op_add1 (pe_op op_div' (pv 0) pe_int) (pe_op op_mulL' pe_int (pv 4))) pe_int) pe_int) pe_int) pe_int) (fun _ _ => rfl))))))
        (pss_one (ps_ret (pv 3)))))))))
  exact Fn.of F hm hb (FnOk.forget G fun vs H Q E h => ⟨H, Q, rfl, rfl, h⟩)
theorem ok_l_place_by (T : Txt K mg C) : Fn P w K mg base CX0 3 "_law_place_by" (sp_l_place_by K C) := by
  obtain ⟨f, fd, F, hm, hb⟩ := T.F_l_place_by
  have G : FnOk P w K mg base CX0 3 f fd ["_law_cells_here"] (sp_l_place_by K C) := by
    refine F.ok sc_l_place_by (fun vs H Q E h => ?_) (fun cdv A outer s H vs Q E hr h => ?_)
    · exact len_l_place_by h
    · skip
      have hu := hu_of hr
      refine ⟨t_l_place_by K C E, ?_, rd_l_place_by h⟩
      exact (pss_one (ps_ret (pe_lc (own := [("_law_cell", 1)]) (g := gName 1) (tt := tYes) rfl sc_l_place_by.nd (pi_list (pv 0)) (blkOk_by (N := ["_law_cells_here", "_law_cell"]) (own := [("_law_cell", 1)]) (sc := defScope s_l_place_by) (by decide +kernel)) (fun _ _ _ _ _ => (pg_name (i := 1) sc_l_place_by.nd rfl (Or.inl rfl))) (fun _ _ _ _ _ => pts_nil) (fun _ _ _ _ _ => (pe_fn0 (ok_l_name_by T) hr (by decide) rfl (pa_cons (pv 1) pa_nil))))))
  exact Fn.of F hm hb G
theorem ok_p_shared (T : Txt K mg C) : Fn P w K mg base CX0 1 "shared" (sp_p_shared K C) := by
  obtain ⟨f, fd, F, hm, hb⟩ := T.F_p_shared
  have G : FnOk P w K mg base CX0 1 f fd ["one", "other"] (sp_p_shared K C) := by
    refine F.ok sc_p_shared (fun vs H Q E h => ?_) (fun cdv A outer s H vs Q E hr h => ?_)
    · exact len_p_shared h
    · skip
      have hu := hu_of hr
      refine ⟨t_p_shared K C E, ?_, rd_p_shared h⟩
      exact (pss_cons (ps_set (i := 2) sc_p_shared.nd rfl (.inl rfl) pe_int)
        (pss_cons (ps_for PassesOwn.never rfl (pi_zip (by rfl) T.z_zip (pa_cons (pv 0) (pa_cons (pv 1) pa_nil))) (pg_tup rfl (pgs_cons (pg_name (i := 3) sc_p_shared.nd rfl (.inl rfl)) (pgs_cons (pg_name (i := 4) sc_p_shared.nd rfl (.inl rfl)) pgs_nil)))
        (pss_cons (ps_if (pt_cmpR op_neS (pv 3) (pv 4) (nomark _))
        (pss_one (ps_ret (pv 2)))
        pss_nil)
        (pss_one (ps_set (i := 2) sc_p_shared.nd rfl (.inl rfl) (pe_op op_add1 (pv 2) pe_int)))))
        (pss_one (ps_ret (pv 2)))))
  exact Fn.of F hm hb G
theorem ok_p_escaped (T : Txt K mg C) : Fn P w K mg base CX0 1 "escaped" (sp_p_escaped K C) := by
  obtain ⟨f, fd, F, hm, hb⟩ := T.F_p_escaped
  have G : FnOk P w K mg base CX0 1 f fd ["sign"] (sp_p_escaped K C) := by
    refine F.ok sc_p_escaped (fun vs H Q E h => ?_) (fun cdv A outer s H vs Q E hr h => ?_)
    · exact len_p_escaped h
    · skip
      have hu := hu_of hr
      refine ⟨t_p_escaped K C E, ?_, rd_p_escaped h⟩
      exact (pss_one (ps_ret (pe_op op_addS (pe_lit _ lit_126) (pe_bm PySem.F.plainAttrs_str PySem.F.slot_str_zfill PySem.F.type_str_zfill mt_zf2 (pe_callTy call_strN (by rfl) T.z_str (by decide +kernel) (pa_cons (pe_bm PySem.F.plainAttrs_str PySem.F.slot_str_index PySem.F.type_str_index mt_ixSigns (pe_gl T.g_SIGNS rfl) (pa_cons (pv 0) pa_nil)) pa_nil)) (pa_cons pe_int pa_nil)))))
  exact Fn.of F hm hb G
theorem ok_p_written (T : Txt K mg C) : Fn P w K mg base CX0 2 "written" (sp_p_written K C) := by
  obtain ⟨f, fd, F, hm, hb⟩ := T.F_p_written
  have G : FnOk P w K mg base CX0 2 f fd ["name"] (raw (sp_p_written K C)) := by
    refine F.ok sc_p_written (fun vs H Q E h => ?_) (fun cdv A outer s H vs Q E hr h => ?_)
    · obtain ⟨H0, Q0, rfl, rfl, h⟩ := h
      exact len_p_written h
    · obtain ⟨H0, Q0, rfl, rfl, h⟩ := h
      have hu := hu_of hr
      refine ⟨t_p_written K C E, ?_, rd_p_written h⟩
      exact (pss_cons (ps_set (i := 1) sc_p_written.nd rfl (.inl rfl) (pe_lit _ lit_nil))
        (pss_cons (ps_for PassesOwn.never rfl (pi_enumS (by rfl) T.z_enumerate (pa_cons (pv 0) pa_nil)) (pg_tup rfl (pgs_cons (pg_name (i := 2) sc_p_written.nd rfl (.inl rfl)) (pgs_cons (pg_name (i := 3) sc_p_written.nd rfl (.inl rfl)) pgs_nil)))
        (pss_cons (ps_set (i := 4) sc_p_written.nd rfl (.inl rfl) (pe_and (pe_cmpR op_eqI (pv 2) pe_int (nomark _)) (pe_one (pe_or (pe_cmpR op_eqS (pv 3) (pe_lit _ lit_64) (nomark _)) (pe_or (pe_cmpR op_eqS (pv 0) (pe_lit _ lit_46) (nomark _)) (pe_one (pe_cmpR op_eqS (pv 0) (pe_lit _ lit_46_46) (nomark _))))))))
        (pss_one (ps_if (PW.pt (pw_or (pt_cmpR op_eqS (pv 3) (pe_lit _ lit_47) (nomark _)) (pw_or (pt_cmpR op_eqS (pv 3) (pe_lit _ lit_126) (nomark _)) (pw_or1 (pt_val (pv 4))))))
        (pss_one (ps_set (i := 1) sc_p_written.nd rfl (.inl rfl) (pe_op op_addS (pv 1) (pe_fn0 (ok_p_escaped T) hr (by decide) rfl (pa_cons (pv 3) pa_nil)))))
        (pss_one (ps_set (i := 1) sc_p_written.nd rfl (.inl rfl) (pe_op op_addS (pv 1) (pv 3))))))))
        (pss_one (ps_ret (pv 1)))))
  exact Fn.of F hm hb (FnOk.forget G fun vs H Q E h => ⟨H, Q, rfl, rfl, h⟩)
theorem ok_p_told (T : Txt K mg C) : Fn P w K mg base CX0 3 "told" (sp_p_told K C) := by
  obtain ⟨f, fd, F, hm, hb⟩ := T.F_p_told
  have G : FnOk P w K mg base CX0 3 f fd ["rooted", "ups", "names"] (sp_p_told K C) := by
    refine F.ok sc_p_told (fun vs H Q E h => ?_) (fun cdv A outer s H vs Q E hr h => ?_)
    · exact len_p_told h
    · skip
      have hu := hu_of hr
      refine ⟨t_p_told K C E, ?_, rd_p_told h⟩
      exact (pss_cons (ps_set (i := 3) sc_p_told.nd rfl (.inl rfl) (pe_op op_cat (pe_op op_rep (pe_lst (pa_cons (pe_lit _ lit_46_46) pa_nil)) (pv 1)) (pe_lc (own := [("name", 4)]) (g := gName 4) (tt := tYes) rfl sc_p_told.nd (pi_list (pv 2)) (blkOk_by (N := ["rooted", "ups", "names", "parts", "name"]) (own := [("name", 4)]) (sc := defScope s_p_told) (by decide +kernel)) (fun _ _ _ _ _ => (pg_name (i := 4) sc_p_told.nd rfl (Or.inl rfl))) (fun _ _ _ _ _ => pts_nil) (fun _ _ _ _ _ => (pe_fn0 (ok_p_written T) hr (by decide) rfl (pa_cons (pv 4) pa_nil))))))
        (pss_cons (ps_if (pt_val (pv 0))
        (pss_one (ps_ret (pe_op op_addS (pe_lit _ lit_47) (pe_bm PySem.F.plainAttrs_str PySem.F.slot_str_join PySem.F.type_str_join mt_joinS (pe_lit _ lit_47) (pa_cons (pv 3) pa_nil)))))
        pss_nil)
        (pss_cons (ps_if (pt_cmpR op_eqI (pe_callB call_lenL (by rfl) T.z_len (by decide +kernel) (pa_cons (pv 3) pa_nil)) pe_int (nomark _))
        (pss_one (ps_ret (pe_lit _ lit_46)))
        pss_nil)
        (pss_one (ps_ret (pe_bm PySem.F.plainAttrs_str PySem.F.slot_str_join PySem.F.type_str_join mt_joinS (pe_lit _ lit_47) (pa_cons (pv 3) pa_nil)))))))
  exact Fn.of F hm hb G
theorem ok_p_way (T : Txt K mg C) : Fn P w K mg base CX0 4 "way" (sp_p_way K C) := by
  obtain ⟨f, fd, F, hm, hb⟩ := T.F_p_way
  have G : FnOk P w K mg base CX0 4 f fd ["start", "goal"] (sp_p_way K C) := by
    refine F.ok sc_p_way (fun vs H Q E h => ?_) (fun cdv A outer s H vs Q E hr h => ?_)
    · exact len_p_way h
    · skip
      have hu := hu_of hr
      refine ⟨t_p_way K C E, ?_, rd_p_way h⟩
      exact (pss_cons (ps_set (i := 2) sc_p_way.nd rfl (.inl rfl) (pe_fn0 (ok_p_shared T) hr (by decide) rfl (pa_cons (pv 0) (pa_cons (pv 1) pa_nil))))
        (pss_one (ps_ret (pe_fn0 (ok_p_told T) hr (by decide) rfl (pa_cons pe_bl (pa_cons (pe_op op_sub1 (pe_callB call_lenL (by rfl) T.z_len (by decide +kernel) (pa_cons (pv 0) pa_nil)) (pv 2)) (pa_cons (pe_slice sl_L (pv 1) (po_some (pv 2)) po_none) pa_nil)))))))
  exact Fn.of F hm hb G
theorem ok_l_read (T : Txt K mg C) : Fn P w K mg base CX0 2 "_law_read" (sp_l_read K C) := by
  obtain ⟨f, fd, F, hm, hb⟩ := T.F_l_read
  have G : FnOk P w K mg base CX0 2 f fd ["_law_part"] (sp_l_read K C) := by
    refine F.ok sc_l_read (fun vs H Q E h => ?_) (fun cdv A outer s H vs Q E hr h => ?_)
    · exact len_l_read h
    · skip
      have hu := hu_of hr
      refine ⟨t_l_read K C E, ?_, rd_l_read h⟩
      exact (pss_cons (ps_set (i := 1) sc_l_read.nd rfl (.inl rfl) (pe_lit _ lit_nil))
        (pss_cons (ps_set (i := 2) sc_l_read.nd rfl (.inl rfl) pe_int)
        (pss_cons (ps_while PassesOwn.never (pt_cmpR op_lt1 (pv 2) (pe_callB call_lenS (by rfl) T.z_len (by decide +kernel) (pa_cons (pv 0) pa_nil)) (nomark _))
        (pss_one (ps_if (pt_cmpR op_neS (pe_ix ix_S (pv 0) (pv 2) (fun _ _ => rfl)) (pe_lit _ lit_126) (nomark _))
        (pss_cons (ps_set (i := 1) sc_l_read.nd rfl (.inl rfl) (pe_op op_addS (pv 1) (pe_ix ix_S (pv 0) (pv 2) (fun _ _ => rfl))))
        (pss_one (ps_set (i := 2) sc_l_read.nd rfl (.inl rfl) (pe_op op_add1 (pv 2) pe_int))))
        (pss_cons (ps_set (i := 3) sc_l_read.nd rfl (.inl rfl) (pe_slice sl_S (pv 0) (po_some (pe_op op_add1 (pv 2) pe_int)) (po_some (pe_op op_add1 (pv 2) pe_int))))
        (pss_cons (ps_if (PW.pt (pw_or (pt_cmpR op_lt1 (pe_callB call_lenS (by rfl) T.z_len (by decide +kernel) (pa_cons (pv 3) pa_nil)) pe_int (nomark _)) (pw_or (pt_cmpR op_niS' (pe_ix ix_S (pv 3) pe_int (fun _ _ => rfl)) (pe_lit _ lit_h2970) rfl) (pw_or1 (pt_cmpR op_niS' (pe_ix ix_S (pv 3) pe_int (fun _ _ => rfl)) (pe_lit _ lit_h2970) rfl)))))
        (pss_one (ps_ret pe_non))
        pss_nil)
        (pss_cons (ps_if (pt_cmpR op_gt1 (pe_callTy call_int2 (by rfl) T.z_int (by decide +kernel) (pa_cons (pv 3) pa_nil)) pe_int (nomark _))
        (pss_one (ps_ret pe_non))
        pss_nil)
        (pss_cons (ps_set (i := 1) sc_l_read.nd rfl (.inl rfl) (pe_op op_addS (pv 1) (pe_ix ix_S (pe_fn00 (ok_l_signs T) hr (by decide) rfl) (pe_callTy call_int2 (by rfl) T.z_int (by decide +kernel) (pa_cons (pv 3) pa_nil)) (fun _ _ => rfl))))
        (pss_one (ps_set (i := 2) sc_l_read.nd rfl (.inl rfl) (pe_op op_add1 (pv 2) pe_int))))))))))
        (pss_one (ps_ret (pv 1))))))
  exact Fn.of F hm hb G
theorem ok_l_plain_steps (T : Txt K mg C) : Fn P w K mg base CX0 3 "_law_plain_steps" (sp_l_plain_steps K C) := by
  obtain ⟨f, fd, F, hm, hb⟩ := T.F_l_plain_steps
  have G : FnOk P w K mg base CX0 3 f fd ["_law_line"] (sp_l_plain_steps K C) := by
    refine F.ok sc_l_plain_steps (fun vs H Q E h => ?_) (fun cdv A outer s H vs Q E hr h => ?_)
    · exact len_l_plain_steps h
    · skip
      have hu := hu_of hr
      refine ⟨t_l_plain_steps K C E, ?_, rd_l_plain_steps h⟩
      exact (pss_cons (ps_set (i := 1) sc_l_plain_steps.nd rfl (.inl rfl) (pe_lst pa_nil))
        (C8.pss_cut (ps_if (pt_cmpR op_eqS (pe_slice sl_S (pv 0) po_none (po_some pe_int)) (pe_lit _ lit_47) (nomark _))
        (pss_one (ps_expr (pe_bm PySem.F.plainAttrs_list PySem.F.slot_list_append PySem.F.type_list_append mt_append (pv 1) (pa_cons (pe_tup (pa_cons (pe_lit _ lit_114_111_111_116) pa_nil)) pa_nil))))
        pss_nil)
        (pss_cons (ps_if (PW.pt (pw_or (pt_cmpR op_eqS (pv 0) (pe_lit _ lit_47) (nomark _)) (pw_or1 (pt_cmpR op_eqS (pv 0) (pe_lit _ lit_46) (nomark _)))))
        (pss_one (ps_ret (pv 1)))
        pss_nil)
        (pss_cons (ps_for PassesOwn.never rfl (pi_list (pe_bm PySem.F.plainAttrs_str PySem.F.slot_str_split PySem.F.type_str_split mt_splitS (pe_slice sl_S (pv 0) (po_some (pe_callB call_lenL (by rfl) T.z_len (by decide +kernel) (pa_cons (pv 1) pa_nil))) po_none) (pa_cons (pe_lit _ lit_47) pa_nil))) (pg_name (i := 2) sc_l_plain_steps.nd rfl (.inl rfl))
        (pss_one (ps_if (pt_cmpR op_eqS (pv 2) (pe_lit _ lit_46_46) (nomark _))
        (pss_one (ps_expr (pe_bm PySem.F.plainAttrs_list PySem.F.slot_list_append PySem.F.type_list_append mt_append (pv 1) (pa_cons (pe_tup (pa_cons (pe_lit _ lit_117_112) pa_nil)) pa_nil))))
        (pss_cons (ps_set (i := 3) sc_l_plain_steps.nd rfl (.inl rfl) (pe_fn0 (ok_l_read T) hr (by decide) rfl (pa_cons (pv 2) pa_nil)))
        (pss_cons (ps_if (PW.pt (pw_or (pt_cmpR op_isN' (pv 3) pe_non (nomark _)) (pw_or (pt_cmpR op_eqS (pv 3) (pe_lit _ lit_nil) (nomark _)) (pw_or (pt_cmpR op_eqS (pv 2) (pe_lit _ lit_46) (nomark _)) (pw_or1 (pt_cmpR op_eqS (pe_ix ix_S (pv 2) pe_int (fun _ _ => rfl)) (pe_lit _ lit_64) (nomark _)))))))
        (pss_one (ps_ret pe_non))
        pss_nil)
        (pss_one (ps_expr (pe_bm PySem.F.plainAttrs_list PySem.F.slot_list_append PySem.F.type_list_append mt_append (pv 1) (pa_cons (pe_tup (pa_cons (pe_lit _ lit_110_97_109_101) (pa_cons (pv 3) pa_nil))) pa_nil)))))))))
        (pss_one (ps_ret (pv 1)))))))
  exact Fn.of F hm hb G
theorem ok_l_cells (T : Txt K mg C) : Fn P w K mg base CX0 2 "_law_cells" (sp_l_cells K C) := by
  obtain ⟨f, fd, F, hm, hb⟩ := T.F_l_cells
  have G : FnOk P w K mg base CX0 2 f fd ["_law_script", "_law_start", "_law_many", "_law_far"] (sp_l_cells K C) := by
    refine F.ok sc_l_cells (fun vs H Q E h => ?_) (fun cdv A outer s H vs Q E hr h => ?_)
    · exact len_l_cells h
    · skip
      have hu := hu_of hr
      refine ⟨t_l_cells K C E, ?_, rd_l_cells h⟩
      exact (pss_cons (ps_if (pt_val (pv 3))
        (pss_one (ps_ret (pe_lc (own := [("_law_k", 4)]) (g := gName 4) (tt := tYes) rfl sc_l_cells.nd (pi_range1 (by rfl) T.z_range (pa_cons pe_int pa_nil)) (blkOk_by (N := ["_law_script", "_law_start", "_law_many", "_law_far", "_law_k"]) (own := [("_law_k", 4)]) (sc := defScope s_l_cells) (by decide +kernel)) (fun _ _ _ _ _ => (pg_name (i := 4) sc_l_cells.nd rfl (Or.inl rfl))) (fun _ _ _ _ _ => pts_nil) (fun _ _ _ _ _ => (pe_op op_add1 (pe_fn0 (ok_l_of T) hr (by decide) rfl (pa_cons (pv 0) (pa_cons (pv 1) pa_nil))) (pe_op op_mulL' (pe_op op_mulL' pe_int (pv 4)) (pv 4)))))))
        pss_nil)
        (pss_one (ps_ret (pe_lc (own := [("_law_k", 4)]) (g := gName 4) (tt := tYes) rfl sc_l_cells.nd (pi_range1 (by rfl) T.z_range (pa_cons (pv 2) pa_nil)) (blkOk_by (N := ["_law_script", "_law_start", "_law_many", "_law_far", "_law_k"]) (own := [("_law_k", 4)]) (sc := defScope s_l_cells) (by decide +kernel)) (fun _ _ _ _ _ => (pg_name (i := 4) sc_l_cells.nd rfl (Or.inl rfl))) (fun _ _ _ _ _ => pts_nil) (fun _ _ _ _ _ => (pe_fn0 (ok_l_of T) hr (by decide) rfl (pa_cons (pv 0) (pa_cons (pe_op op_add1 (pv 1) (pv 4)) pa_nil))))))))
  exact Fn.of F hm hb G
theorem ok_l_must (T : Txt K mg C) : Fn P w K mg base CX0 1 "_law_must" (sp_l_must K C) := by
  obtain ⟨f, fd, F, hm, hb⟩ := T.F_l_must
  have G : FnOk P w K mg base CX0 1 f fd ["_law_name", "_law_k"] (sp_l_must K C) := by
    refine F.ok sc_l_must (fun vs H Q E h => ?_) (fun cdv A outer s H vs Q E hr h => ?_)
    · exact len_l_must h
    · skip
      have hu := hu_of hr
      refine ⟨t_l_must K C E, ?_, rd_l_must h⟩
      exact (pss_cons (ps_if (PW.pt (pw_or (pt_cmpR op_eqS (pe_ix ix_S (pv 0) (pv 1) (fun _ _ => rfl)) (pe_lit _ lit_47) (nomark _)) (pw_or1 (pt_cmpR op_eqS (pe_ix ix_S (pv 0) (pv 1) (fun _ _ => rfl)) (pe_lit _ lit_126) (nomark _)))))
        (pss_one (ps_ret pe_bl))
        pss_nil)
        (pss_one (ps_ret (pe_and (pe_cmpR op_eqI (pv 1) pe_int (nomark _)) (pe_one (pe_or (pe_cmpR op_eqS (pe_ix ix_S (pv 0) pe_int (fun _ _ => rfl)) (pe_lit _ lit_64) (nomark _)) (pe_or (pe_cmpR op_eqS (pv 0) (pe_lit _ lit_46) (nomark _)) (pe_one (pe_cmpR op_eqS (pv 0) (pe_lit _ lit_46_46) (nomark _))))))))))
  exact Fn.of F hm hb G
theorem ok_l_escape (T : Txt K mg C) : Fn P w K mg base CX0 2 "_law_escape" (sp_l_escape K C) := by
  obtain ⟨f, fd, F, hm, hb⟩ := T.F_l_escape
  have G : FnOk P w K mg base CX0 2 f fd ["_law_sign"] (sp_l_escape K C) := by
    refine F.ok sc_l_escape (fun vs H Q E h => ?_) (fun cdv A outer s H vs Q E hr h => ?_)
    · exact len_l_escape h
    · skip
      have hu := hu_of hr
      refine ⟨t_l_escape K C E, ?_, rd_l_escape h⟩
      exact (pss_cons (ps_set (i := 1) sc_l_escape.nd rfl (.inl rfl) (pe_bm PySem.F.plainAttrs_str PySem.F.slot_str_index PySem.F.type_str_index mt_ixSigns (pe_fn00 (ok_l_signs T) hr (by decide) rfl) (pa_cons (pv 0) pa_nil)))
        (pss_one (ps_ret (pe_op op_addS (pe_op op_addS (pe_lit _ lit_126) (pe_callTy call_strD (by rfl) T.z_str (by decide +kernel) (pa_cons (pe_op op_div' (pv 1) pe_int) pa_nil))) (pe_callTy call_strD (by rfl) T.z_str (by decide +kernel) (pa_cons (pe_op op_mod' (pv 1) pe_int) pa_nil))))))
  exact Fn.of F hm hb G
theorem ok_l_due_part (T : Txt K mg C) : Fn P w K mg base CX0 3 "_law_due_part" (sp_l_due_part K C) := by
  obtain ⟨f, fd, F, hm, hb⟩ := T.F_l_due_part
  have G : FnOk P w K mg base CX0 3 f fd ["_law_name"] (sp_l_due_part K C) := by
    refine F.ok sc_l_due_part (fun vs H Q E h => ?_) (fun cdv A outer s H vs Q E hr h => ?_)
    · exact len_l_due_part h
    · skip
      have hu := hu_of hr
      refine ⟨t_l_due_part K C E, ?_, rd_l_due_part h⟩
      exact (pss_cons (ps_set (i := 1) sc_l_due_part.nd rfl (.inl rfl) (pe_lit _ lit_nil))
        (pss_cons (ps_for PassesOwn.never rfl (pi_range1 (by rfl) T.z_range (pa_cons (pe_callB call_lenS (by rfl) T.z_len (by decide +kernel) (pa_cons (pv 0) pa_nil)) pa_nil)) (pg_name (i := 2) sc_l_due_part.nd rfl (.inl rfl))
        (pss_one (ps_if (pt_val (pe_fn0 (ok_l_must T) hr (by decide) rfl (pa_cons (pv 0) (pa_cons (pv 2) pa_nil))))
        (pss_one (ps_set (i := 1) sc_l_due_part.nd rfl (.inl rfl) (pe_op op_addS (pv 1) (pe_fn0 (ok_l_escape T) hr (by decide) rfl (pa_cons (pe_ix ix_S (pv 0) (pv 2) (fun _ _ => rfl)) pa_nil)))))
        (pss_one (ps_set (i := 1) sc_l_due_part.nd rfl (.inl rfl) (pe_op op_addS (pv 1) (pe_ix ix_S (pv 0) (pv 2) (fun _ _ => rfl))))))))
        (pss_one (ps_ret (pv 1)))))
  exact Fn.of F hm hb G
theorem ok_l_as_told (T : Txt K mg C) : Fn P w K mg base CX0 4 "_law_as_told" (sp_l_as_told K C) := by
  obtain ⟨f, fd, F, hm, hb⟩ := T.F_l_as_told
  have G : FnOk P w K mg base CX0 4 f fd ["_law_line", "_law_steps"] (sp_l_as_told K C) := by
    refine F.ok sc_l_as_told (fun vs H Q E h => ?_) (fun cdv A outer s H vs Q E hr h => ?_)
    · exact len_l_as_told h
    · skip
      have hu := hu_of hr
      refine ⟨t_l_as_told K C E, ?_, rd_l_as_told h⟩
      exact (pss_cons (ps_set (i := 2) sc_l_as_told.nd rfl (.inl rfl) (pe_callB call_lenL (by rfl) T.z_len (by decide +kernel) (pa_cons (pe_lc (own := [("_law_step", 5)]) (g := gName 5) (tt := tTest (tOp qEqS (tOp (qIxT K) (tVar 5) (tC (.int 0))) (tC (vS [117, 112])))) rfl sc_l_as_told.nd (pi_list (pv 1)) (blkOk_by (N := ["_law_line", "_law_steps", "_law_ups", "_law_names", "_law_parts", "_law_step", "_law_name"]) (own := [("_law_step", 5)]) (sc := defScope s_l_as_told) (by decide +kernel)) (fun _ _ _ _ _ => (pg_name (i := 5) sc_l_as_told.nd rfl (Or.inl rfl))) (fun _ _ _ _ _ => (pts_one (pt_cmpR op_eqS (pe_ix ix_T (pv 5) pe_int (fun _ _ => rfl)) (pe_lit _ lit_117_112) (nomark _)))) (fun _ _ _ _ _ => (pv 5))) pa_nil)))
        (pss_cons (ps_setLc (i := 3) (own := [("_law_step", 5)]) (g := gName 5) (tt := tTest (tOp qEqS (tOp (qIxT K) (tVar 5) (tC (.int 0))) (tC (vS [110, 97, 109, 101])))) rfl sc_l_as_told.nd rfl rfl (sw_true rfl rfl rfl (by decide +kernel)) (pi_list (pv 1)) (blkOk_by (N := ["_law_line", "_law_steps", "_law_ups", "_law_names", "_law_parts", "_law_step", "_law_name"]) (own := [("_law_step", 5)]) (sc := defScope s_l_as_told) (by decide +kernel)) (fun _ _ _ _ _ => (pg_name (i := 5) sc_l_as_told.nd rfl (Or.inl rfl))) (fun _ _ _ _ _ => (pts_one (pt_cmpR op_eqS (pe_ix ix_T (pv 5) pe_int (fun _ _ => rfl)) (pe_lit _ lit_110_97_109_101) (nomark _)))) (fun _ _ _ _ _ => (pe_ix ix_T (pv 5) pe_int (fun _ _ => rfl))))
        (pss_cons (ps_set (i := 4) sc_l_as_told.nd rfl (.inl rfl) (pe_op op_cat (pe_op op_rep (pe_lst (pa_cons (pe_lit _ lit_46_46) pa_nil)) (pv 2)) (pe_lc (own := [("_law_name", 6)]) (g := gName 6) (tt := tYes) rfl sc_l_as_told.nd (pi_list (pv 3)) (blkOk_by (N := ["_law_line", "_law_steps", "_law_ups", "_law_names", "_law_parts", "_law_step", "_law_name"]) (own := [("_law_name", 6)]) (sc := defScope s_l_as_told) (by decide +kernel)) (fun _ _ _ _ _ => (pg_name (i := 6) sc_l_as_told.nd rfl (Or.inl rfl))) (fun _ _ _ _ _ => pts_nil) (fun _ _ _ _ _ => (pe_fn0 (ok_l_due_part T) hr (by decide) rfl (pa_cons (pv 6) pa_nil))))))
        (pss_cons (ps_if (pt_cmpR op_eqS (pe_slice sl_S (pv 0) po_none (po_some pe_int)) (pe_lit _ lit_47) (nomark _))
        (pss_one (ps_ret (pe_and (pe_cmpR op_eqI (pv 2) pe_int (nomark _)) (pe_one (pe_cmpR op_eqS (pv 0) (pe_op op_addS (pe_lit _ lit_47) (pe_bm PySem.F.plainAttrs_str PySem.F.slot_str_join PySem.F.type_str_join mt_joinS (pe_lit _ lit_47) (pa_cons (pv 4) pa_nil))) (nomark _))))))
        pss_nil)
        (pss_one (ps_ret (pe_cmpR op_eqS (pv 0) (pe_op op_addS (pe_bm PySem.F.plainAttrs_str PySem.F.slot_str_join PySem.F.type_str_join mt_joinS (pe_lit _ lit_47) (pa_cons (pv 4) pa_nil)) (pe_op op_mulS (pe_lit _ lit_46) (pe_callTy call_intB (by rfl) T.z_int (by decide +kernel) (pa_cons (pe_cmpR op_eqI (pe_callB call_lenL (by rfl) T.z_len (by decide +kernel) (pa_cons (pv 4) pa_nil)) pe_int (nomark _)) pa_nil)))) (nomark _))))))))
  exact Fn.of F hm hb G
theorem ok_l_walk (T : Txt K mg C) : Fn P w K mg base CX0 1 "_law_walk" (sp_l_walk K C) := by
  obtain ⟨f, fd, F, hm, hb⟩ := T.F_l_walk
  have G : FnOk P w K mg base CX0 1 f fd ["_law_place", "_law_steps", "_law_places"] (sp_l_walk K C) := by
    refine F.ok sc_l_walk (fun vs H Q E h => ?_) (fun cdv A outer s H vs Q E hr h => ?_)
    · exact len_l_walk h
    · skip
      have hu := hu_of hr
      refine ⟨t_l_walk K C E, ?_, rd_l_walk h⟩
      exact (pss_cons (ps_set (i := 0) sc_l_walk.nd rfl (.inl rfl) (pe_callTy call_listL (by rfl) T.z_list (by decide +kernel) (pa_cons (pv 0) pa_nil)))
        (pss_cons (ps_for PassesOwn.never rfl (pi_list (pv 1)) (pg_name (i := 3) sc_l_walk.nd rfl (.inl rfl))
        (pss_one (ps_if (pt_cmpR op_eqS (pe_ix ix_T (pv 3) pe_int (fun _ _ => rfl)) (pe_lit _ lit_114_111_111_116) (nomark _))
        (pss_one (ps_set (i := 0) sc_l_walk.nd rfl (.inl rfl) (pe_lst pa_nil)))
        (pss_one (ps_if (pt_cmpR op_eqS (pe_ix ix_T (pv 3) pe_int (fun _ _ => rfl)) (pe_lit _ lit_117_112) (nomark _))
        (pss_one (ps_set (i := 0) sc_l_walk.nd rfl (.inl rfl) (pe_slice sl_L (pv 0) po_none (po_some (pe_un un_neg pe_int)))))
        (pss_one (ps_if (pt_cmpR op_eqS (pe_ix ix_T (pv 3) pe_int (fun _ _ => rfl)) (pe_lit _ lit_115_104_97_114_101) (nomark _))
        (pss_one (ps_set (i := 0) sc_l_walk.nd rfl (.inl rfl) (pe_callTy call_listL (by rfl) T.z_list (by decide +kernel) (pa_cons (pe_dget hu (pv 2) (pe_ix ix_T (pv 3) pe_int (fun _ _ => rfl)) (fun _ _ => rfl)) pa_nil))))
        (pss_one (ps_set (i := 0) sc_l_walk.nd rfl (.inl rfl) (pe_op op_cat (pv 0) (pe_lst (pa_cons (pe_ix ix_T (pv 3) pe_int (fun _ _ => rfl)) pa_nil))))))))))))
        (pss_one (ps_ret (pv 0)))))
  exact Fn.of F hm hb G
theorem ok_law_k09 (T : Txt K mg C) {f : Addr} {fd : FuncData} (F : Fun K "law" "law" s_law_k09 f fd) : FnOk P w K mg base CX0 5 f fd ["_law_script"] (sp_law K C) := by
  have G : FnOk P w K mg base CX0 5 f fd ["_law_script"] (sp_law K C) := by
    refine F.ok sc_law_k09 (fun vs H Q E h => ?_) (fun cdv A outer s H vs Q E hr h => ?_)
    · exact len_law h
    · skip
      have hu := hu_of hr
      refine ⟨t_law_k09 K C E, ?_, rd_law_k09 h⟩
      exact (pss_cons (ps_set (i := 1) sc_law_k09.nd rfl (.inl rfl) (pe_fn0 (ok_l_of T) hr (by decide) rfl (pa_cons (pv 0) (pa_cons pe_int pa_nil))))
        (pss_cons (ps_set (i := 2) sc_law_k09.nd rfl (.inl rfl) (pe_fn0 (ok_l_place_by T) hr (by decide) rfl (pa_cons (pe_fn0 (ok_l_cells T) hr (by decide) rfl (pa_cons (pv 0) (pa_cons pe_int (pa_cons (pe_op op_mod' (pv 1) pe_int) (pa_cons (pe_cmpR op_eqI (pe_op op_mod' (pe_op op_div' (pv 1) pe_int) pe_int) pe_int (nomark _)) pa_nil))))) pa_nil)))
        (pss_cons (ps_set (i := 3) sc_law_k09.nd rfl (.inl rfl) (pe_fn0 (ok_l_of T) hr (by decide) rfl (pa_cons (pv 0) (pa_cons pe_int pa_nil))))
        (pss_cons (ps_set (i := 4) sc_law_k09.nd rfl (.inl rfl) (pe_op op_cat (pv 2) (pe_fn0 (ok_l_place_by T) hr (by decide) rfl (pa_cons (pe_lc (own := [("_law_k", 10)]) (g := gName 10) (tt := tYes) rfl sc_law_k09.nd (pi_range1 (by rfl) T.z_range (pa_cons (pe_op op_mod' (pv 3) pe_int) pa_nil)) (blkOk_by (N := ["_law_script", "_law_first", "_law_common", "_law_second", "_law_start", "_law_goal", "_law_handed", "_law_found", "_law_steps", "_law_count", "_law_k"]) (own := [("_law_k", 10)]) (sc := defScope s_law_k09) (by decide +kernel)) (fun _ _ _ _ _ => (pg_name (i := 10) sc_law_k09.nd rfl (Or.inl rfl))) (fun _ _ _ _ _ => pts_nil) (fun _ _ _ _ _ => (pe_fn0 (ok_l_of T) hr (by decide) rfl (pa_cons (pv 0) (pa_cons (pe_op op_add1 pe_int (pv 10)) pa_nil))))) pa_nil))))
        (pss_cons (ps_set (i := 5) sc_law_k09.nd rfl (.inl rfl) (pe_op op_cat (pv 2) (pe_fn0 (ok_l_place_by T) hr (by decide) rfl (pa_cons (pe_lc (own := [("_law_k", 10)]) (g := gName 10) (tt := tYes) rfl sc_law_k09.nd (pi_range1 (by rfl) T.z_range (pa_cons (pe_op op_mod' (pe_op op_div' (pv 3) pe_int) pe_int) pa_nil)) (blkOk_by (N := ["_law_script", "_law_first", "_law_common", "_law_second", "_law_start", "_law_goal", "_law_handed", "_law_found", "_law_steps", "_law_count", "_law_k"]) (own := [("_law_k", 10)]) (sc := defScope s_law_k09) (by decide +kernel)) (fun _ _ _ _ _ => (pg_name (i := 10) sc_law_k09.nd rfl (Or.inl rfl))) (fun _ _ _ _ _ => pts_nil) (fun _ _ _ _ _ => (pe_fn0 (ok_l_of T) hr (by decide) rfl (pa_cons (pv 0) (pa_cons (pe_op op_add1 pe_int (pv 10)) pa_nil))))) pa_nil))))
        (C8.pss_cut (ps_if (pt_cmpR op_eqI (pe_op op_mod' (pe_op op_div' (pv 3) pe_int) pe_int) pe_int (nomark _))
        (pss_one (ps_set (i := 4) sc_law_k09.nd rfl (.inl rfl) (pe_op op_cat (pv 4) (pe_fn0 (ok_l_place_by T) hr (by decide) rfl (pa_cons (pe_fn0 (ok_l_cells T) hr (by decide) rfl (pa_cons (pv 0) (pa_cons pe_int (pa_cons pe_int (pa_cons pe_bl pa_nil))))) pa_nil)))))
        pss_nil)
        (C8.pss_cut (ps_if (pt_cmpR op_eqI (pe_op op_mod' (pe_op op_div' (pv 3) pe_int) pe_int) pe_int (nomark _))
        (pss_one (ps_set (i := 5) sc_law_k09.nd rfl (.inl rfl) (pe_op op_cat (pv 5) (pe_fn0 (ok_l_place_by T) hr (by decide) rfl (pa_cons (pe_fn0 (ok_l_cells T) hr (by decide) rfl (pa_cons (pv 0) (pa_cons pe_int (pa_cons pe_int (pa_cons pe_bl pa_nil))))) pa_nil)))))
        pss_nil)
        (pss_cons (ps_set (i := 6) sc_law_k09.nd rfl (.inl rfl) (pe_lst (pa_cons (pe_callTy call_listL (by rfl) T.z_list (by decide +kernel) (pa_cons (pv 4) pa_nil)) (pa_cons (pe_callTy call_listL (by rfl) T.z_list (by decide +kernel) (pa_cons (pv 5) pa_nil)) pa_nil))))
        (pss_cons (ps_set (i := 7) sc_law_k09.nd rfl (.inl rfl) (pe_fn0 (ok_p_way T) hr (by decide) rfl (pa_cons (pe_ix ix_L (pv 6) pe_int (fun _ _ => rfl)) (pa_cons (pe_ix ix_L (pv 6) pe_int (fun _ _ => rfl)) pa_nil))))
        (pss_cons (ps_if (PW.pt (pw_or (pt_not (pt_val (pe_callB call_isi (by rfl) T.z_isinstance (by decide +kernel) (pa_cons (pv 7) (pa_cons (pe_bltn (by rfl) T.z_str (by decide +kernel) rfl) pa_nil))))) (pw_or1 (pt_cmpR (op_neD hr.units) (pv 6) (pe_lst (pa_cons (pv 4) (pa_cons (pv 5) pa_nil))) (nomark _)))))
        (pss_one (ps_ret pe_bl))
        pss_nil)
        (pss_cons (ps_if (pt_cmpR (op_eqD hr.units) (pv 4) (pv 5) (nomark _))
        (pss_one (ps_ret (pe_cmpR op_eqS (pv 7) (pe_lit _ lit_46) (nomark _))))
        pss_nil)
        (pss_cons (ps_set (i := 8) sc_law_k09.nd rfl (.inl rfl) (pe_fn0 (ok_l_plain_steps T) hr (by decide) rfl (pa_cons (pv 7) pa_nil)))
        (pss_cons (ps_if (PW.pt (pw_or (pt_cmpR op_isN' (pv 8) pe_non (nomark _)) (pw_or (pt_cmpR op_eqS (pe_slice sl_S (pv 7) po_none (po_some pe_int)) (pe_lit _ lit_47) (nomark _)) (pw_or1 (pt_cmpR (op_neD hr.units) (pe_fn0 (ok_l_walk T) hr (by decide) rfl (pa_cons (pv 4) (pa_cons (pv 8) (pa_cons pe_dnewK pa_nil)))) (pv 5) (nomark _))))))
        (pss_one (ps_ret pe_bl))
        pss_nil)
        (pss_cons (ps_if (pt_not (pt_val (pe_fn0 (ok_l_as_told T) hr (by decide) rfl (pa_cons (pv 7) (pa_cons (pv 8) pa_nil)))))
        (pss_one (ps_ret pe_bl))
        pss_nil)
        (pss_cons (ps_set (i := 9) sc_law_k09.nd rfl (.inl rfl) pe_int)
        (pss_cons (ps_while PassesOwn.never (PW.pt (pw_and (pt_cmpR op_lt1 (pv 9) (pe_callB (call_min2 rfl) (by rfl) T.z_min (by decide +kernel) (pa_cons (pe_callB call_lenL (by rfl) T.z_len (by decide +kernel) (pa_cons (pv 4) pa_nil)) (pa_cons (pe_callB call_lenL (by rfl) T.z_len (by decide +kernel) (pa_cons (pv 5) pa_nil)) pa_nil))) (nomark _)) (pw_and1 (pt_cmpR op_eqS (pe_ix ix_L (pv 4) (pv 9) (fun _ _ => rfl)) (pe_ix ix_L (pv 5) (pv 9) (fun _ _ => rfl)) (nomark _)))))
        (pss_one (ps_set (i := 9) sc_law_k09.nd rfl (.inl rfl) (pe_op op_add1 (pv 9) pe_int))))
        (pss_one (ps_ret (pe_cmpR op_eqI (pe_callB call_lenL (by rfl) T.z_len (by decide +kernel) (pa_cons (pv 8) pa_nil)) (pe_op op_sub1 (pe_op op_add1 (pe_op op_sub1 (pe_callB call_lenL (by rfl) T.z_len (by decide +kernel) (pa_cons (pv 4) pa_nil)) (pv 9)) (pe_callB call_lenL (by rfl) T.z_len (by decide +kernel) (pa_cons (pv 5) pa_nil))) (pv 9)) (nomark _))))))))))))))))))))
  exact G
end
theorem all_mk {l : PySem.W.OpenLaw} {w : World} {K : PySem.W.Frag} {h : Heap} {mg : Str → Option Value} {fa f1 f2 f3 f4 f5 f6 f7 f8 f9 f10 f11 f12 f13 f14 f15 f16 f17 f18 : Addr} (X : K.In h) (G : h.Ns mainGlobals mg) (hfa : mg "law" = some (.ref fa))
    {od1 an1 od2 an2 od3 an3 od4 an4 od5 an5 od6 an6 od7 an7 od8 an8 od9 an9 od10 an10 od11 an11 od12 an12 od13 an13 od14 an14 od15 an15 od16 an16 od17 an17 od18 an18 : Option Addr} {sl1 sl2 sl3 sl4 sl5 sl6 sl7 sl8 sl9 sl10 sl11 sl12 sl13 sl14 sl15 sl16 sl17 sl18 : Array (Option Value)} {oc1 kV1 dc1 pm1 cd1 ct1 oc2 kV2 dc2 pm2 cd2 ct2 oc3 kV3 dc3 pm3 cd3 ct3 oc4 kV4 dc4 pm4 cd4 ct4 oc5 kV5 dc5 pm5 cd5 ct5 oc6 kV6 dc6 pm6 cd6 ct6 oc7 kV7 dc7 pm7 cd7 ct7 oc8 kV8 dc8 pm8 cd8 ct8 oc9 kV9 dc9 pm9 cd9 ct9 oc10 kV10 dc10 pm10 cd10 ct10 oc11 kV11 dc11 pm11 cd11 ct11 oc12 kV12 dc12 pm12 cd12 ct12 oc13 kV13 dc13 pm13 cd13 ct13 oc14 kV14 dc14 pm14 cd14 ct14 oc15 kV15 dc15 pm15 cd15 ct15 oc16 kV16 dc16 pm16 cd16 ct16 oc17 kV17 dc17 pm17 cd17 ct17 oc18 kV18 dc18 pm18 cd18 ct18 : Value} {tSIGNS : Tok}
    (a1 : PySem.W.nsIn K mainGlobals "_law_of" = some (some (.ref f1)))
    (l1 : K.lookup f1 = some ⟨oc1, od1, .func (PySem.W.fnOf "_law_of" "_law_of" (defArgs s_l_of) (defBody s_l_of) (defScope s_l_of) .none kV1 dc1 pm1 an1 cd1 ct1), sl1⟩)
    (c1 : PySem.W.codeIn K cd1 "_law_of" = true)
    (k1 : PySem.W.keepIn K (.ref f1) = true)
    (a2 : PySem.W.nsIn K mainGlobals "_law_signs" = some (some (.ref f2)))
    (l2 : K.lookup f2 = some ⟨oc2, od2, .func (PySem.W.fnOf "_law_signs" "_law_signs" (defArgs s_l_signs) (defBody s_l_signs) (defScope s_l_signs) .none kV2 dc2 pm2 an2 cd2 ct2), sl2⟩)
    (c2 : PySem.W.codeIn K cd2 "_law_signs" = true)
    (k2 : PySem.W.keepIn K (.ref f2) = true)
    (a3 : PySem.W.nsIn K mainGlobals "_law_name_by" = some (some (.ref f3)))
    (l3 : K.lookup f3 = some ⟨oc3, od3, .func (PySem.W.fnOf "_law_name_by" "_law_name_by" (defArgs s_l_name_by) (defBody s_l_name_by) (defScope s_l_name_by) .none kV3 dc3 pm3 an3 cd3 ct3), sl3⟩)
    (c3 : PySem.W.codeIn K cd3 "_law_name_by" = true)
    (k3 : PySem.W.keepIn K (.ref f3) = true)
    (a4 : PySem.W.nsIn K mainGlobals "_law_place_by" = some (some (.ref f4)))
    (l4 : K.lookup f4 = some ⟨oc4, od4, .func (PySem.W.fnOf "_law_place_by" "_law_place_by" (defArgs s_l_place_by) (defBody s_l_place_by) (defScope s_l_place_by) .none kV4 dc4 pm4 an4 cd4 ct4), sl4⟩)
    (c4 : PySem.W.codeIn K cd4 "_law_place_by" = true)
    (k4 : PySem.W.keepIn K (.ref f4) = true)
    (a5 : PySem.W.nsIn K mainGlobals "shared" = some (some (.ref f5)))
    (l5 : K.lookup f5 = some ⟨oc5, od5, .func (PySem.W.fnOf "shared" "shared" (defArgs s_p_shared) (defBody s_p_shared) (defScope s_p_shared) .none kV5 dc5 pm5 an5 cd5 ct5), sl5⟩)
    (c5 : PySem.W.codeIn K cd5 "shared" = true)
    (k5 : PySem.W.keepIn K (.ref f5) = true)
    (a6 : PySem.W.nsIn K mainGlobals "escaped" = some (some (.ref f6)))
    (l6 : K.lookup f6 = some ⟨oc6, od6, .func (PySem.W.fnOf "escaped" "escaped" (defArgs s_p_escaped) (defBody s_p_escaped) (defScope s_p_escaped) .none kV6 dc6 pm6 an6 cd6 ct6), sl6⟩)
    (c6 : PySem.W.codeIn K cd6 "escaped" = true)
    (k6 : PySem.W.keepIn K (.ref f6) = true)
    (a7 : PySem.W.nsIn K mainGlobals "written" = some (some (.ref f7)))
    (l7 : K.lookup f7 = some ⟨oc7, od7, .func (PySem.W.fnOf "written" "written" (defArgs s_p_written) (defBody s_p_written) (defScope s_p_written) .none kV7 dc7 pm7 an7 cd7 ct7), sl7⟩)
    (c7 : PySem.W.codeIn K cd7 "written" = true)
    (k7 : PySem.W.keepIn K (.ref f7) = true)
    (a8 : PySem.W.nsIn K mainGlobals "told" = some (some (.ref f8)))
    (l8 : K.lookup f8 = some ⟨oc8, od8, .func (PySem.W.fnOf "told" "told" (defArgs s_p_told) (defBody s_p_told) (defScope s_p_told) .none kV8 dc8 pm8 an8 cd8 ct8), sl8⟩)
    (c8 : PySem.W.codeIn K cd8 "told" = true)
    (k8 : PySem.W.keepIn K (.ref f8) = true)
    (a9 : PySem.W.nsIn K mainGlobals "way" = some (some (.ref f9)))
    (l9 : K.lookup f9 = some ⟨oc9, od9, .func (PySem.W.fnOf "way" "way" (defArgs s_p_way) (defBody s_p_way) (defScope s_p_way) .none kV9 dc9 pm9 an9 cd9 ct9), sl9⟩)
    (c9 : PySem.W.codeIn K cd9 "way" = true)
    (k9 : PySem.W.keepIn K (.ref f9) = true)
    (a10 : PySem.W.nsIn K mainGlobals "_law_read" = some (some (.ref f10)))
    (l10 : K.lookup f10 = some ⟨oc10, od10, .func (PySem.W.fnOf "_law_read" "_law_read" (defArgs s_l_read) (defBody s_l_read) (defScope s_l_read) .none kV10 dc10 pm10 an10 cd10 ct10), sl10⟩)
    (c10 : PySem.W.codeIn K cd10 "_law_read" = true)
    (k10 : PySem.W.keepIn K (.ref f10) = true)
    (a11 : PySem.W.nsIn K mainGlobals "_law_plain_steps" = some (some (.ref f11)))
    (l11 : K.lookup f11 = some ⟨oc11, od11, .func (PySem.W.fnOf "_law_plain_steps" "_law_plain_steps" (defArgs s_l_plain_steps) (defBody s_l_plain_steps) (defScope s_l_plain_steps) .none kV11 dc11 pm11 an11 cd11 ct11), sl11⟩)
    (c11 : PySem.W.codeIn K cd11 "_law_plain_steps" = true)
    (k11 : PySem.W.keepIn K (.ref f11) = true)
    (a12 : PySem.W.nsIn K mainGlobals "_law_cells" = some (some (.ref f12)))
    (l12 : K.lookup f12 = some ⟨oc12, od12, .func (PySem.W.fnOf "_law_cells" "_law_cells" (defArgs s_l_cells) (defBody s_l_cells) (defScope s_l_cells) .none kV12 dc12 pm12 an12 cd12 ct12), sl12⟩)
    (c12 : PySem.W.codeIn K cd12 "_law_cells" = true)
    (k12 : PySem.W.keepIn K (.ref f12) = true)
    (a13 : PySem.W.nsIn K mainGlobals "_law_must" = some (some (.ref f13)))
    (l13 : K.lookup f13 = some ⟨oc13, od13, .func (PySem.W.fnOf "_law_must" "_law_must" (defArgs s_l_must) (defBody s_l_must) (defScope s_l_must) .none kV13 dc13 pm13 an13 cd13 ct13), sl13⟩)
    (c13 : PySem.W.codeIn K cd13 "_law_must" = true)
    (k13 : PySem.W.keepIn K (.ref f13) = true)
    (a14 : PySem.W.nsIn K mainGlobals "_law_escape" = some (some (.ref f14)))
    (l14 : K.lookup f14 = some ⟨oc14, od14, .func (PySem.W.fnOf "_law_escape" "_law_escape" (defArgs s_l_escape) (defBody s_l_escape) (defScope s_l_escape) .none kV14 dc14 pm14 an14 cd14 ct14), sl14⟩)
    (c14 : PySem.W.codeIn K cd14 "_law_escape" = true)
    (k14 : PySem.W.keepIn K (.ref f14) = true)
    (a15 : PySem.W.nsIn K mainGlobals "_law_due_part" = some (some (.ref f15)))
    (l15 : K.lookup f15 = some ⟨oc15, od15, .func (PySem.W.fnOf "_law_due_part" "_law_due_part" (defArgs s_l_due_part) (defBody s_l_due_part) (defScope s_l_due_part) .none kV15 dc15 pm15 an15 cd15 ct15), sl15⟩)
    (c15 : PySem.W.codeIn K cd15 "_law_due_part" = true)
    (k15 : PySem.W.keepIn K (.ref f15) = true)
    (a16 : PySem.W.nsIn K mainGlobals "_law_as_told" = some (some (.ref f16)))
    (l16 : K.lookup f16 = some ⟨oc16, od16, .func (PySem.W.fnOf "_law_as_told" "_law_as_told" (defArgs s_l_as_told) (defBody s_l_as_told) (defScope s_l_as_told) .none kV16 dc16 pm16 an16 cd16 ct16), sl16⟩)
    (c16 : PySem.W.codeIn K cd16 "_law_as_told" = true)
    (k16 : PySem.W.keepIn K (.ref f16) = true)
    (a17 : PySem.W.nsIn K mainGlobals "_law_walk" = some (some (.ref f17)))
    (l17 : K.lookup f17 = some ⟨oc17, od17, .func (PySem.W.fnOf "_law_walk" "_law_walk" (defArgs s_l_walk) (defBody s_l_walk) (defScope s_l_walk) .none kV17 dc17 pm17 an17 cd17 ct17), sl17⟩)
    (c17 : PySem.W.codeIn K cd17 "_law_walk" = true)
    (k17 : PySem.W.keepIn K (.ref f17) = true)
    (a18 : PySem.W.nsIn K mainGlobals "law" = some (some (.ref f18)))
    (l18 : K.lookup f18 = some ⟨oc18, od18, .func (PySem.W.fnOf "law" "law" (defArgs s_law_k09) (defBody s_law_k09) (defScope s_law_k09) .none kV18 dc18 pm18 an18 cd18 ct18), sl18⟩)
    (c18 : PySem.W.codeIn K cd18 "law" = true)
    (k18 : PySem.W.keepIn K (.ref f18) = true)
    (gSIGNS : PySem.W.nsIn K mainGlobals "SIGNS" = some (some (.str (S signs) tSIGNS)))
    (z_enumerate : PySem.W.nsIn K mainGlobals "enumerate" = some none)
    (z_int : PySem.W.nsIn K mainGlobals "int" = some none)
    (z_isinstance : PySem.W.nsIn K mainGlobals "isinstance" = some none)
    (z_len : PySem.W.nsIn K mainGlobals "len" = some none)
    (z_list : PySem.W.nsIn K mainGlobals "list" = some none)
    (z_min : PySem.W.nsIn K mainGlobals "min" = some none)
    (z_range : PySem.W.nsIn K mainGlobals "range" = some none)
    (z_str : PySem.W.nsIn K mainGlobals "str" = some none)
    (z_zip : PySem.W.nsIn K mainGlobals "zip" = some none)
    : ∃ fd : FuncData, (∀ (s : Shared) (v : Value), BindsTo s fd ⟨[v], []⟩ [("_law_script", v)]) ∧ ∀ base : Heap, K.In base → base.Ns mainGlobals mg → FnOk l.prog w K mg base CX0 5 fa fd ["_law_script"] (sp_law K ⟨0, 0, 0, 0, 0⟩) := by
  have e := hfa.symm.trans (PySem.W.mg_of X G a18)
  cases e
  have T : Txt K mg ⟨0, 0, 0, 0, 0⟩ := by
    constructor
    · exact ⟨_, _, fun_mk (st := s_l_of) l1 c1 k1, PySem.W.mg_of X G a1, (fun_mk (st := s_l_of) l1 c1 k1).binds (ps := ["_law_script", "_law_k"]) fun _ _ _ _ _ _ us hl => match us, hl with | [_, _], _ => rfl⟩
    · exact ⟨_, _, fun_mk (st := s_l_signs) l2 c2 k2, PySem.W.mg_of X G a2, (fun_mk (st := s_l_signs) l2 c2 k2).binds (ps := []) fun _ _ _ _ _ _ us hl => match us, hl with | [], _ => rfl⟩
    · exact ⟨_, _, fun_mk (st := s_l_name_by) l3 c3 k3, PySem.W.mg_of X G a3, (fun_mk (st := s_l_name_by) l3 c3 k3).binds (ps := ["_law_cell"]) fun _ _ _ _ _ _ us hl => match us, hl with | [_], _ => rfl⟩
    · exact ⟨_, _, fun_mk (st := s_l_place_by) l4 c4 k4, PySem.W.mg_of X G a4, (fun_mk (st := s_l_place_by) l4 c4 k4).binds (ps := ["_law_cells_here"]) fun _ _ _ _ _ _ us hl => match us, hl with | [_], _ => rfl⟩
    · exact ⟨_, _, fun_mk (st := s_p_shared) l5 c5 k5, PySem.W.mg_of X G a5, (fun_mk (st := s_p_shared) l5 c5 k5).binds (ps := ["one", "other"]) fun _ _ _ _ _ _ us hl => match us, hl with | [_, _], _ => rfl⟩
    · exact ⟨_, _, fun_mk (st := s_p_escaped) l6 c6 k6, PySem.W.mg_of X G a6, (fun_mk (st := s_p_escaped) l6 c6 k6).binds (ps := ["sign"]) fun _ _ _ _ _ _ us hl => match us, hl with | [_], _ => rfl⟩
    · exact ⟨_, _, fun_mk (st := s_p_written) l7 c7 k7, PySem.W.mg_of X G a7, (fun_mk (st := s_p_written) l7 c7 k7).binds (ps := ["name"]) fun _ _ _ _ _ _ us hl => match us, hl with | [_], _ => rfl⟩
    · exact ⟨_, _, fun_mk (st := s_p_told) l8 c8 k8, PySem.W.mg_of X G a8, (fun_mk (st := s_p_told) l8 c8 k8).binds (ps := ["rooted", "ups", "names"]) fun _ _ _ _ _ _ us hl => match us, hl with | [_, _, _], _ => rfl⟩
    · exact ⟨_, _, fun_mk (st := s_p_way) l9 c9 k9, PySem.W.mg_of X G a9, (fun_mk (st := s_p_way) l9 c9 k9).binds (ps := ["start", "goal"]) fun _ _ _ _ _ _ us hl => match us, hl with | [_, _], _ => rfl⟩
    · exact ⟨_, _, fun_mk (st := s_l_read) l10 c10 k10, PySem.W.mg_of X G a10, (fun_mk (st := s_l_read) l10 c10 k10).binds (ps := ["_law_part"]) fun _ _ _ _ _ _ us hl => match us, hl with | [_], _ => rfl⟩
    · exact ⟨_, _, fun_mk (st := s_l_plain_steps) l11 c11 k11, PySem.W.mg_of X G a11, (fun_mk (st := s_l_plain_steps) l11 c11 k11).binds (ps := ["_law_line"]) fun _ _ _ _ _ _ us hl => match us, hl with | [_], _ => rfl⟩
    · exact ⟨_, _, fun_mk (st := s_l_cells) l12 c12 k12, PySem.W.mg_of X G a12, (fun_mk (st := s_l_cells) l12 c12 k12).binds (ps := ["_law_script", "_law_start", "_law_many", "_law_far"]) fun _ _ _ _ _ _ us hl => match us, hl with | [_, _, _, _], _ => rfl⟩
    · exact ⟨_, _, fun_mk (st := s_l_must) l13 c13 k13, PySem.W.mg_of X G a13, (fun_mk (st := s_l_must) l13 c13 k13).binds (ps := ["_law_name", "_law_k"]) fun _ _ _ _ _ _ us hl => match us, hl with | [_, _], _ => rfl⟩
    · exact ⟨_, _, fun_mk (st := s_l_escape) l14 c14 k14, PySem.W.mg_of X G a14, (fun_mk (st := s_l_escape) l14 c14 k14).binds (ps := ["_law_sign"]) fun _ _ _ _ _ _ us hl => match us, hl with | [_], _ => rfl⟩
    · exact ⟨_, _, fun_mk (st := s_l_due_part) l15 c15 k15, PySem.W.mg_of X G a15, (fun_mk (st := s_l_due_part) l15 c15 k15).binds (ps := ["_law_name"]) fun _ _ _ _ _ _ us hl => match us, hl with | [_], _ => rfl⟩
    · exact ⟨_, _, fun_mk (st := s_l_as_told) l16 c16 k16, PySem.W.mg_of X G a16, (fun_mk (st := s_l_as_told) l16 c16 k16).binds (ps := ["_law_line", "_law_steps"]) fun _ _ _ _ _ _ us hl => match us, hl with | [_, _], _ => rfl⟩
    · exact ⟨_, _, fun_mk (st := s_l_walk) l17 c17 k17, PySem.W.mg_of X G a17, (fun_mk (st := s_l_walk) l17 c17 k17).binds (ps := ["_law_place", "_law_steps", "_law_places"]) fun _ _ _ _ _ _ us hl => match us, hl with | [_, _, _], _ => rfl⟩
    · exact ⟨_, _, fun_mk (st := s_law_k09) l18 c18 k18, PySem.W.mg_of X G a18, (fun_mk (st := s_law_k09) l18 c18 k18).binds (ps := ["_law_script"]) fun _ _ _ _ _ _ us hl => match us, hl with | [_], _ => rfl⟩
    · exact ⟨_, PySem.W.mg_of X G gSIGNS, _, rfl⟩
    · exact PySem.W.mg_none_of X G z_enumerate
    · exact PySem.W.mg_none_of X G z_int
    · exact PySem.W.mg_none_of X G z_isinstance
    · exact PySem.W.mg_none_of X G z_len
    · exact PySem.W.mg_none_of X G z_list
    · exact PySem.W.mg_none_of X G z_min
    · exact PySem.W.mg_none_of X G z_range
    · exact PySem.W.mg_none_of X G z_str
    · exact PySem.W.mg_none_of X G z_zip
  refine ⟨PySem.W.fnOf "law" "law" (defArgs s_law_k09) (defBody s_law_k09) (defScope s_law_k09) .none kV18 dc18 pm18 an18 cd18 ct18, fun s v => .of_eq rfl, fun base hb1 hb2 => ?_⟩
  have F2 := ok_law_k09 (P := l.prog) (w := w) (base := base) T (fun_mk (st := s_law_k09) l18 c18 k18)
  exact ⟨F2.len, F2.run⟩
end Pw
open PySem PySem.W PyProof.Rows
set_option pp.oneline true in
set_option pp.maxSteps 40 in
set_option maxHeartbeats 0 in
theorem PySem.Challenge.cw_plainway_k09_the_way_there_holds : PySem.Challenge.rw_plainway_k09_the_way_there.Holds := by
  w_on; o_law; k_head; (case hw => w_witness2)
  k_fill
  refine L2.walk_of (l := PySem.Challenge.rw_plainway_k09_the_way_there) (n := 63) (k := 5) (x := "_law_script") (CX := fun _ => L2.CX0) (sp := fun w => Pw.sp_law _ ⟨0, 0, 0, 0, 0⟩) rfl (by decide) rfl ⟨rfl, by decide, by decide⟩ (fun w h Y => PySem.W.kIn_of Y) ?F (fun _ _ a ns hl _ hS => ⟨a, ns, rfl, hS, hl, fun _ => rfl⟩) (fun _ _ _ _ _ h => h)
  case F =>
    intro w mg fa h KX G hmg
    refine' Pw.all_mk KX G hmg ?a1 ?l1 ?c1 ?k1 ?a2 ?l2 ?c2 ?k2 ?a3 ?l3 ?c3 ?k3 ?a4 ?l4 ?c4 ?k4 ?a5 ?l5 ?c5 ?k5 ?a6 ?l6 ?c6 ?k6 ?a7 ?l7 ?c7 ?k7 ?a8 ?l8 ?c8 ?k8 ?a9 ?l9 ?c9 ?k9 ?a10 ?l10 ?c10 ?k10 ?a11 ?l11 ?c11 ?k11 ?a12 ?l12 ?c12 ?k12 ?a13 ?l13 ?c13 ?k13 ?a14 ?l14 ?c14 ?k14 ?a15 ?l15 ?c15 ?k15 ?a16 ?l16 ?c16 ?k16 ?a17 ?l17 ?c17 ?k17 ?a18 ?l18 ?c18 ?k18 ?gSIGNS ?z_enumerate ?z_int ?z_isinstance ?z_len ?z_list ?z_min ?z_range ?z_str ?z_zip
    (case a1 => k_is)
    (case a2 => k_is)
    (case a3 => k_is)
    (case a4 => k_is)
    (case a5 => k_is)
    (case a6 => k_is)
    (case a7 => k_is)
    (case a8 => k_is)
    (case a9 => k_is)
    (case a10 => k_is)
    (case a11 => k_is)
    (case a12 => k_is)
    (case a13 => k_is)
    (case a14 => k_is)
    (case a15 => k_is)
    (case a16 => k_is)
    (case a17 => k_is)
    (case a18 => k_is)
    (case gSIGNS => k_is)
    (case z_enumerate => k_is)
    (case z_int => k_is)
    (case z_isinstance => k_is)
    (case z_len => k_is)
    (case z_list => k_is)
    (case z_min => k_is)
    (case z_range => k_is)
    (case z_str => k_is)
    (case z_zip => k_is)
    (case l1 => k_is)
    (case c1 => k_is)
    (case k1 => k_is)
    (case l2 => k_is)
    (case c2 => k_is)
    (case k2 => k_is)
    (case l3 => k_is)
    (case c3 => k_is)
    (case k3 => k_is)
    (case l4 => k_is)
    (case c4 => k_is)
    (case k4 => k_is)
    (case l5 => k_is)
    (case c5 => k_is)
    (case k5 => k_is)
    (case l6 => k_is)
    (case c6 => k_is)
    (case k6 => k_is)
    (case l7 => k_is)
    (case c7 => k_is)
    (case k7 => k_is)
    (case l8 => k_is)
    (case c8 => k_is)
    (case k8 => k_is)
    (case l9 => k_is)
    (case c9 => k_is)
    (case k9 => k_is)
    (case l10 => k_is)
    (case c10 => k_is)
    (case k10 => k_is)
    (case l11 => k_is)
    (case c11 => k_is)
    (case k11 => k_is)
    (case l12 => k_is)
    (case c12 => k_is)
    (case k12 => k_is)
    (case l13 => k_is)
    (case c13 => k_is)
    (case k13 => k_is)
    (case l14 => k_is)
    (case c14 => k_is)
    (case k14 => k_is)
    (case l15 => k_is)
    (case c15 => k_is)
    (case k15 => k_is)
    (case l16 => k_is)
    (case c16 => k_is)
    (case k16 => k_is)
    (case l17 => k_is)
    (case c17 => k_is)
    (case k17 => k_is)
    (case l18 => k_is)
    (case c18 => k_is)
    (case k18 => k_is)

