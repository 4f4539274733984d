import PyProof.Rows.All
import Wide.All
import OpenK.AllK
import Wide.FinOn
import Open.SpecLaws
import KE.OsGo
import KE.SortData
import HandS.ForSpec
import HandS.Comp
import HandS.Deep
import HandS.TupAny
import HandS.Style
import HandS.Wide
import HandS.Evl
import PySem.Challenge.RW_tabletexts_s01_answers
import PyFlatLaws
set_option Elab.async false
set_option linter.all false
set_option maxRecDepth 100000
set_option maxHeartbeats 4000000
section
set_option autoImplicit false
/-! the mirror of pieces.py: places in a text -/
namespace Tx
open VatdfBase Vatdfa

def parts (b : Nat) : Bool := b == 44 || b == 10
def bareEnd (t : List Nat) (a : Nat) : Nat := a + ((t.drop a).takeWhile fun b => !parts b).length
/-- from behind the opening quotes: the place of the closing ones, or of the end -/
def closeRest : List Nat → Nat → Nat
  | [], k => k
  | 34 :: 34 :: r, k => closeRest r (k + 2)
  | 34 :: _, k => k
  | _ :: r, k => closeRest r (k + 1)
def closing (t : List Nat) (a : Nat) : Nat := closeRest (t.drop (a + 1)) (a + 1)
def opens (t : List Nat) (a : Nat) : Bool := t[a]? == some 34
def cellEnd (t : List Nat) (a : Nat) : Nat :=
  if opens t a = true then (if closing t a = t.length then t.length else bareEnd t (closing t a + 1)) else bareEnd t a
def goesOn (t : List Nat) (e : Nat) : Bool := decide (e ≠ t.length) && (t[e]? == some 44 || decide (e + 1 < t.length))
/-- the starts from a on -/
def startsF (t : List Nat) : Nat → Nat → List Nat
  | 0, a => [a]
  | f + 1, a => a :: if goesOn t (cellEnd t a) = true then startsF t f (cellEnd t a + 1) else []
def starts (t : List Nat) : List Nat := startsF t t.length 0
/-- the bytes of a quoted cell: the rest from a place on, how far it goes -/
def quotedRest : List Nat → Nat → List Nat
  | _, 0 => []
  | [], _ + 1 => []
  | 34 :: _ :: r, n + 2 => 34 :: quotedRest r n
  | 34 :: _, _ + 1 => [34]
  | b :: r, n + 1 => b :: quotedRest r n
def quotedBytes (t : List Nat) (a c : Nat) : List Nat := quotedRest (t.drop (a + 1)) (c - (a + 1))
def pieceAt (t : List Nat) (a : Nat) : Raw :=
  if opens t a = true then ⟨a, quotedBytes t a (closing t a), true⟩ else ⟨a, (t.drop a).take (bareEnd t a - a), false⟩
def isNew (t : List Nat) (a : Nat) : Bool := decide (a = 0) || t[a - 1]? == some 10
def addLast (ls : List (List Raw)) (x : Raw) : List (List Raw) := match ls with
  | [] => []
  | [l] => [l ++ [x]]
  | l :: m :: r => l :: addLast (m :: r) x
def lineStep (t : List Nat) (ls : List (List Raw)) (a : Nat) : List (List Raw) := addLast (if isNew t a = true then ls ++ [[]] else ls) (pieceAt t a)
def linesOf (t : List Nat) : List (List Raw) := (starts t).foldl (lineStep t) []

/-! ### faults -/
def byteFault (t : List Nat) : Nat × Nat := match t.findIdx? fun b => !(b == 10 || (decide (32 ≤ b) && decide (b ≤ 126))) with
  | some p => (1, p)
  | none => (0, 0)
def quoteFaultAt (t : List Nat) (a : Nat) : Nat × Nat :=
  if opens t a = true then
    (if closing t a = t.length then (7, a) else
      match t[closing t a + 1]? with
      | some b => if parts b = true then (0, 0) else (7, closing t a + 1)
      | none => (0, 0))
  else (0, 0)
/-- the first that is a fault -/
def firstFault : List (Nat × Nat) → Nat × Nat
  | [] => (0, 0)
  | f :: r => if f = (0, 0) then firstFault r else f
def quoteFault (t : List Nat) : Nat × Nat := firstFault ((starts t).map (quoteFaultAt t))
def namesFault : List (List Nat) → List Raw → Nat × Nat
  | _, [] => (0, 0)
  | done, r :: l => if done.length = 5 then (5, r.place) else if (r.quoted || !isName r.bytes) = true then (2, r.place) else if done.contains r.bytes = true then (4, r.place) else namesFault (done ++ [r.bytes]) l
def tellsEmpty (r : Raw) : Bool := !r.quoted && decide (r.bytes.length = 0)
def tellsNumber (r : Raw) : Bool := !r.quoted && (numberOf r.bytes).isSome
def tellsCell (r : Raw) : Bool :=
  if tellsEmpty r = true then true
  else if tellsNumber r = true then (match numberOf r.bytes with | some z => isCell (.num z) | none => false)
  else isWord r.bytes
def cellOf (r : Raw) : Cell :=
  if tellsEmpty r = true then .empty
  else if tellsNumber r = true then (match numberOf r.bytes with | some z => .num z | none => .empty)
  else .word r.bytes
def cellsFault : List Raw → Nat × Nat
  | [] => (0, 0)
  | r :: l => if tellsCell r = true then cellsFault l else (6, r.place)
def headPlace (l : List Raw) : Nat := ((l.head?).map fun x => x.place).getD 0
def rowFault (l : List Raw) (k n : Nat) : Nat × Nat :=
  if 12 ≤ k then (5, headPlace l) else if l.length ≠ n then (3, headPlace l) else cellsFault l
def rowsFault (n : Nat) : Nat → List (List Raw) → Nat × Nat
  | _, [] => (0, 0)
  | k, l :: r => if rowFault l k n = (0, 0) then rowsFault n (k + 1) r else rowFault l k n
def linesFault (ls : List (List Raw)) : Nat × Nat := match ls with
  | [] => (0, 0)
  | h :: r => if namesFault [] h = (0, 0) then rowsFault h.length 0 r else namesFault [] h
def textFault (t : List Nat) : Nat × Nat :=
  if byteFault t = (0, 0) then (if quoteFault t = (0, 0) then linesFault (linesOf t) else quoteFault t) else byteFault t
def textTable (t : List Nat) : Table := match linesOf t with
  | [] => ⟨[], []⟩
  | h :: r => ⟨h.map (·.bytes), r.map fun l => l.map cellOf⟩
end Tx
end

section
set_option autoImplicit false
/-! the mirror of reading is the specification's -/
namespace Tx
open VatdfBase Vatdfa

theorem close_spec : ∀ (n : Nat) (r : List Nat), r.length ≤ n → ∀ (p f : Nat) (done : List Nat), r.length < f →
    (∃ c, c < r.length ∧ closeRest r p = p + c ∧ r[c]? = some 34 ∧ inQuotes f p done r = some (done ++ quotedRest r c, p + c + 1, r.drop (c + 1))) ∨
    (closeRest r p = p + r.length ∧ inQuotes f p done r = none)
  | n, [], _, p, f, done, hf => by
    right
    cases f with
    | zero => simp at hf
    | succ f => exact ⟨by simp [closeRest], by simp [inQuotes]⟩
  | 0, b :: r, h, _, _, _, _ => by simp at h
  | n + 1, b :: r, h, p, f, done, hf => by
    cases f with
    | zero => simp at hf
    | succ f =>
    simp only [List.length_cons] at h hf
    by_cases hb : b = 34
    · subst hb
      match r, h, hf with
      | [], h, hf => left; exact ⟨0, by simp, by simp [closeRest], by simp, by simp [inQuotes, quotedRest]⟩
      | c :: r, h, hf =>
        by_cases hc : c = 34
        · subst hc
          simp only [List.length_cons] at h hf
          rcases close_spec n r (by omega) (p + 2) f (done ++ [34]) (by omega) with ⟨k, h1, h2, h3, h4⟩ | ⟨h1, h2⟩
          · left
            refine ⟨k + 2, by simp; omega, by simp [closeRest, h2]; omega, by simpa using h3, ?_⟩
            simp [inQuotes, h4, quotedRest]
            omega
          · right
            refine ⟨by simp [closeRest, h1]; omega, by simp [inQuotes, h2]⟩
        · left
          exact ⟨0, by simp, by simp [closeRest, hc], by simp, by simp [inQuotes, quotedRest, hc]⟩
    · rcases close_spec n r (by omega) (p + 1) f (done ++ [b]) (by omega) with ⟨k, h1, h2, h3, h4⟩ | ⟨h1, h2⟩
      · left
        refine ⟨k + 1, by simp; omega, by simp [closeRest, hb, h2]; omega, by simpa using h3, ?_⟩
        simp [inQuotes, hb, h4, quotedRest]
        omega
      · right
        refine ⟨by simp [closeRest, hb, h1]; omega, by simp [inQuotes, hb, h2]⟩

theorem ending_after : ∀ (l : List Nat), ∃ e, endingOf (l.drop (l.takeWhile fun b => !parts b).length) = some e
  | [] => ⟨.text, by simp [endingOf]⟩
  | b :: l => by
    by_cases h : parts b = true
    · have h' : ¬ ((!parts b) = true) := by simp [h]
      rw [List.takeWhile_cons, if_neg h']
      unfold parts at h
      simp only [Bool.or_eq_true, beq_iff_eq] at h
      rcases h with h | h
      · subst h; exact ⟨.comma, by simp [endingOf]⟩
      · subst h; exact ⟨.line, by simp [endingOf]⟩
    · have h' : (!parts b) = true := by simp [h]
      rw [List.takeWhile_cons, if_pos h']
      obtain ⟨e, he⟩ := ending_after l
      exact ⟨e, by simpa using he⟩
theorem parts_fun : (fun b : Nat => b != 44 && b != 10) = fun b => !parts b := by
  funext b
  unfold parts
  rw [Bool.not_or]
  rfl
theorem take_while_len (l : List Nat) (q : Nat → Bool) : (l.takeWhile q).length ≤ l.length := by
  induction l with
  | nil => simp
  | cons b l ih => rw [List.takeWhile_cons]; split <;> simp <;> omega
theorem take_while_take (l : List Nat) (q : Nat → Bool) : l.take (l.takeWhile q).length = l.takeWhile q := by
  induction l with
  | nil => simp
  | cons b l ih => rw [List.takeWhile_cons]; split <;> simp [ih]
theorem bareEnd_le {t : List Nat} {a : Nat} (h : a ≤ t.length) : bareEnd t a ≤ t.length := by
  unfold bareEnd
  have := take_while_len (t.drop a) fun b => !parts b
  rw [List.length_drop] at this
  omega
theorem bareEnd_ge {t : List Nat} {a : Nat} : a ≤ bareEnd t a := Nat.le_add_right _ _
/-- a bare end right here -/
theorem bareEnd_here {t : List Nat} {a : Nat} (h : ∀ b, t[a]? = some b → parts b = true) : bareEnd t a = a := by
  unfold bareEnd
  cases e : t.drop a with
  | nil => simp
  | cons b r =>
    have hb : t[a]? = some b := by
      have : (t.drop a)[0]? = some b := by rw [e]; rfl
      simpa using this
    rw [List.takeWhile_cons, if_neg (by simp [h b hb])]
    simp
theorem ending_drop {t : List Nat} {k : Nat} : endingOf (t.drop k) = match t[k]? with
    | none => some .text
    | some b => if b = 44 then some .comma else if b = 10 then some .line else none := by
  cases e : t.drop k with
  | nil =>
    have : t[k]? = none := by
      rw [List.getElem?_eq_none_iff]
      have := congrArg List.length e
      simp at this
      omega
    rw [this]
    rfl
  | cons b r =>
    have hb : t[k]? = some b := by
      have : (t.drop k)[0]? = some b := by rw [e]; rfl
      simpa using this
    rw [hb]
    rfl
theorem cellEnd_le {t : List Nat} {a : Nat} (h : a ≤ t.length) : cellEnd t a ≤ t.length := by
  unfold cellEnd
  split
  · rename_i ho
    split
    · exact Nat.le_refl _
    · rename_i hc
      unfold opens at ho
      have ha : a < t.length := by
        rw [beq_iff_eq] at ho
        exact (List.getElem?_eq_some_iff.mp ho).1
      refine bareEnd_le ?_
      unfold closing at hc ⊢
      rcases close_spec _ (t.drop (a + 1)) (Nat.le_refl _) (a + 1) ((t.drop (a + 1)).length + 1) [] (by omega) with ⟨c, h1, h2, _, _⟩ | ⟨h1, _⟩
      · rw [h2]
        rw [List.length_drop] at h1
        omega
      · rw [h1, List.length_drop] at hc ⊢
        omega
  · exact bareEnd_le h
theorem cellEnd_ge {t : List Nat} {a : Nat} (h : a ≤ t.length) : a ≤ cellEnd t a := by
  unfold cellEnd
  split
  · split
    · exact h
    · refine Nat.le_trans ?_ bareEnd_ge
      unfold closing
      rcases close_spec _ (t.drop (a + 1)) (Nat.le_refl _) (a + 1) ((t.drop (a + 1)).length + 1) [] (by omega) with ⟨c, h1, h2, _, _⟩ | ⟨h1, _⟩ <;> omega
  · exact bareEnd_ge
theorem rawCell_quote (p : Nat) (r : List Nat) : rawCell p (34 :: r) = (match inQuotes (r.length + 1) (p + 1) [] r with
    | none => .error ⟨7, p⟩
    | some x => match endingOf x.2.2 with
      | none => .error ⟨7, x.2.1⟩
      | some e => .ok (⟨p, x.1, true⟩, e, x.2.1 + 1, x.2.2.drop 1)) := rfl
/-- one cell -/
theorem rawCell_is {t : List Nat} {a : Nat} (ha : a ≤ t.length) :
    (quoteFaultAt t a = (0, 0) ∧ ∃ e, endingOf (t.drop (cellEnd t a)) = some e ∧ rawCell a (t.drop a) = .ok (pieceAt t a, e, cellEnd t a + 1, t.drop (cellEnd t a + 1))) ∨
    ((quoteFaultAt t a).1 = 7 ∧ rawCell a (t.drop a) = .error ⟨7, (quoteFaultAt t a).2⟩) := by
  by_cases ho : opens t a = true
  · have ho' := ho
    unfold opens at ho'
    rw [beq_iff_eq] at ho'
    obtain ⟨hlt, hb34⟩ := List.getElem?_eq_some_iff.mp ho'
    have hd : t.drop a = 34 :: t.drop (a + 1) := by
      rw [List.drop_eq_getElem_cons hlt, hb34]
    rw [hd, rawCell_quote]
    unfold quoteFaultAt
    rw [if_pos ho]
    have hcl : closing t a = closeRest (t.drop (a + 1)) (a + 1) := rfl
    rcases close_spec _ (t.drop (a + 1)) (Nat.le_refl _) (a + 1) ((t.drop (a + 1)).length + 1) [] (by omega) with ⟨c, h1, h2, h3, h4⟩ | ⟨h1, h2⟩
    · rw [List.length_drop] at h1
      have hc : closing t a = a + 1 + c := by rw [hcl, h2]
      rw [hc, if_neg (by omega)]
      rw [h4]
      dsimp only
      rw [List.drop_drop]
      have e1 : a + 1 + (c + 1) = a + 1 + c + 1 := by omega
      rw [e1]
      have hE := @ending_drop t (a + 1 + c + 1)
      cases hx : t[a + 1 + c + 1]? with
      | none =>
        rw [hx] at hE
        dsimp only at hE
        left
        refine ⟨rfl, .text, ?_⟩
        have he : cellEnd t a = a + 1 + c + 1 := by
          unfold cellEnd
          rw [if_pos ho, hc, if_neg (by omega)]
          exact bareEnd_here fun b hb => by rw [hx] at hb; cases hb
        rw [he, hE]
        refine ⟨rfl, ?_⟩
        dsimp only
        rw [List.drop_drop]
        unfold pieceAt
        rw [if_pos ho, hc]
        unfold quotedBytes
        have e2 : a + 1 + c - (a + 1) = c := by omega
        rw [e2]
        simp
      | some b =>
        rw [hx] at hE
        dsimp only at hE ⊢
        by_cases hp : parts b = true
        · left
          rw [if_pos hp]
          have he : cellEnd t a = a + 1 + c + 1 := by
            unfold cellEnd
            rw [if_pos ho, hc, if_neg (by omega)]
            exact bareEnd_here fun b' hb' => by rw [hx] at hb'; cases hb'; exact hp
          refine ⟨rfl, ?_⟩
          rw [he]
          unfold parts at hp
          simp only [Bool.or_eq_true, beq_iff_eq] at hp
          have hpc : pieceAt t a = ⟨a, [] ++ quotedRest (t.drop (a + 1)) c, true⟩ := by
            unfold pieceAt
            rw [if_pos ho, hc]
            unfold quotedBytes
            have e2 : a + 1 + c - (a + 1) = c := by omega
            rw [e2]
            rfl
          rcases hp with rfl | rfl
          · refine ⟨.comma, hE, ?_⟩
            rw [hpc, hE]
            simp
          · refine ⟨.line, hE, ?_⟩
            rw [hpc, hE]
            simp
        · right
          rw [if_neg hp]
          refine ⟨rfl, ?_⟩
          unfold parts at hp
          simp only [Bool.or_eq_true, beq_iff_eq, not_or] at hp
          rw [if_neg hp.1, if_neg hp.2] at hE
          rw [hE]
    · right
      have hc : closing t a = t.length := by
        rw [hcl, h1, List.length_drop]
        omega
      rw [if_pos hc]
      refine ⟨rfl, ?_⟩
      dsimp only
      rw [h2]
  · left
    unfold quoteFaultAt
    rw [if_neg ho]
    refine ⟨rfl, ?_⟩
    have he : cellEnd t a = bareEnd t a := by unfold cellEnd; rw [if_neg ho]
    have hp : pieceAt t a = ⟨a, (t.drop a).takeWhile fun b => !parts b, false⟩ := by
      unfold pieceAt
      rw [if_neg ho]
      unfold bareEnd
      rw [Nat.add_sub_cancel_left, take_while_take]
    obtain ⟨e, h⟩ := ending_after (t.drop a)
    rw [List.drop_drop] at h
    have hbe : a + ((t.drop a).takeWhile fun b => !parts b).length = bareEnd t a := rfl
    rw [hbe] at h
    refine ⟨e, by rw [he]; exact h, ?_⟩
    rw [he, hp]
    have hn : ∀ r, t.drop a ≠ 34 :: r := fun r hr => ho (by
      unfold opens
      have : (t.drop a)[0]? = some 34 := by rw [hr]; rfl
      rw [beq_iff_eq]
      simpa using this)
    unfold rawCell
    split
    · rename_i r hr
      exact absurd hr (hn r)
    · rw [parts_fun]
      dsimp only
      rw [List.drop_drop, hbe, h]
      dsimp only
      rw [List.drop_drop]
      rfl

theorem addLast_snoc (x : Raw) : ∀ (d : List (List Raw)) (l : List Raw), addLast (d ++ [l]) x = d ++ [l ++ [x]]
  | [], l => rfl
  | [d], l => rfl
  | d :: e :: r, l => by
    show d :: addLast ((e :: r) ++ [l]) x = _
    rw [addLast_snoc x (e :: r) l]
    rfl
theorem drop_isEmpty {t : List Nat} {k : Nat} : (t.drop k).isEmpty = decide (t.length ≤ k) := by
  rw [Bool.eq_iff_iff, List.isEmpty_iff, List.drop_eq_nil_iff, decide_eq_true_iff]
/-- lines of cells -/
theorem rawLines_is (t : List Nat) : ∀ (f a : Nat) (line : List Raw) (done st : List (List Raw)), a ≤ t.length → t.length - a ≤ f →
    ((isNew t a = true ∧ line = [] ∧ st = done) ∨ (isNew t a = false ∧ st = done ++ [line])) →
    (firstFault ((startsF t f a).map (quoteFaultAt t)) = (0, 0) ∧ ∃ L, rawLines (f + 1) a line (t.drop a) = .ok L ∧ L ≠ [] ∧ (startsF t f a).foldl (lineStep t) st = done ++ L) ∨
    ((firstFault ((startsF t f a).map (quoteFaultAt t))).1 = 7 ∧ rawLines (f + 1) a line (t.drop a) = .error ⟨7, (firstFault ((startsF t f a).map (quoteFaultAt t))).2⟩) := by
  intro f
  induction f with
  | zero =>
    intro a line done st ha hf hst
    have haL : a = t.length := by omega
    have hst' : lineStep t st a = done ++ [line ++ [pieceAt t a]] := by
      unfold lineStep
      rcases hst with ⟨h1, h2, h3⟩ | ⟨h1, h2⟩
      · rw [if_pos h1, h2, h3, addLast_snoc]
      · rw [if_neg (by simp [h1]), h2, addLast_snoc]
    have hce : cellEnd t a = t.length := by
      have h1 := cellEnd_le ha
      have h2 := cellEnd_ge ha
      omega
    unfold startsF
    rw [List.map_cons, List.map_nil, List.foldl_cons, List.foldl_nil, hst']
    unfold firstFault rawLines
    rcases rawCell_is ha with ⟨h0, e, he, hc⟩ | ⟨h0, hc⟩
    · left
      rw [if_pos h0]
      refine ⟨rfl, [line ++ [pieceAt t a]], ?_, by simp, rfl⟩
      rw [hc]
      rw [hce, ending_drop, List.getElem?_eq_none_iff.mpr (Nat.le_refl _)] at he
      cases he
      rfl
    · right
      have hne : quoteFaultAt t a ≠ (0, 0) := fun q => by rw [q] at h0; cases h0
      rw [if_neg hne, hc]
      exact ⟨h0, rfl⟩
  | succ f ih =>
    intro a line done st ha hf hst
    have hst' : lineStep t st a = done ++ [line ++ [pieceAt t a]] := by
      unfold lineStep
      rcases hst with ⟨h1, h2, h3⟩ | ⟨h1, h2⟩
      · rw [if_pos h1, h2, h3, addLast_snoc]
      · rw [if_neg (by simp [h1]), h2, addLast_snoc]
    unfold startsF
    rw [List.map_cons, List.foldl_cons, hst']
    unfold firstFault rawLines
    have hle := cellEnd_le ha
    have hge := cellEnd_ge ha
    rcases rawCell_is ha with ⟨h0, e, he, hc⟩ | ⟨h0, hc⟩
    · rw [if_pos h0, hc]
      show (_ ∧ ∃ L, (match e with
        | .comma => rawLines (f + 1) (cellEnd t a + 1) (line ++ [pieceAt t a]) (t.drop (cellEnd t a + 1))
        | .text => .ok [line ++ [pieceAt t a]]
        | .line => if (t.drop (cellEnd t a + 1)).isEmpty then .ok [line ++ [pieceAt t a]] else (rawLines (f + 1) (cellEnd t a + 1) [] (t.drop (cellEnd t a + 1))).map fun l => (line ++ [pieceAt t a]) :: l) = .ok L ∧ L ≠ [] ∧ _) ∨ (_ ∧ (match e with
        | .comma => rawLines (f + 1) (cellEnd t a + 1) (line ++ [pieceAt t a]) (t.drop (cellEnd t a + 1))
        | .text => .ok [line ++ [pieceAt t a]]
        | .line => if (t.drop (cellEnd t a + 1)).isEmpty then .ok [line ++ [pieceAt t a]] else (rawLines (f + 1) (cellEnd t a + 1) [] (t.drop (cellEnd t a + 1))).map fun l => (line ++ [pieceAt t a]) :: l) = .error _)
      rw [ending_drop] at he
      cases hx : t[cellEnd t a]? with
      | none =>
        rw [hx] at he
        cases he
        have hlen : cellEnd t a = t.length := by
          have := List.getElem?_eq_none_iff.mp hx
          omega
        have hg : goesOn t (cellEnd t a) = false := by unfold goesOn; simp [hlen]
        rw [hg, if_neg Bool.false_ne_true]
        left
        exact ⟨rfl, _, rfl, by simp, rfl⟩
      | some b =>
        rw [hx] at he
        dsimp only at he
        have hlt := (List.getElem?_eq_some_iff.mp hx).1
        by_cases h44 : b = 44
        · rw [if_pos h44] at he
          cases he
          subst h44
          have hg : goesOn t (cellEnd t a) = true := by unfold goesOn; simp [hx]; omega
          rw [hg, if_pos rfl]
          have hnew : isNew t (cellEnd t a + 1) = false := by unfold isNew; simp [hx]
          exact ih (cellEnd t a + 1) (line ++ [pieceAt t a]) done _ (by omega) (by omega) (.inr ⟨hnew, rfl⟩)
        · rw [if_neg h44] at he
          by_cases h10 : b = 10
          · rw [if_pos h10] at he
            cases he
            subst h10
            dsimp only
            rw [drop_isEmpty]
            by_cases hl : t.length ≤ cellEnd t a + 1
            · have hg : goesOn t (cellEnd t a) = false := by unfold goesOn; simp [hx]; omega
              rw [hg, if_neg Bool.false_ne_true, if_pos (by simpa using hl)]
              left
              exact ⟨rfl, _, rfl, by simp, rfl⟩
            · have hg : goesOn t (cellEnd t a) = true := by unfold goesOn; simp; omega
              rw [hg, if_pos rfl, if_neg (by simpa using hl)]
              have hnew : isNew t (cellEnd t a + 1) = true := by unfold isNew; simp [hx]
              rcases ih (cellEnd t a + 1) [] (done ++ [line ++ [pieceAt t a]]) _ (by omega) (by omega) (.inl ⟨hnew, rfl, rfl⟩) with ⟨g1, L, g2, g3, g4⟩ | ⟨g1, g2⟩
              · left
                refine ⟨g1, (line ++ [pieceAt t a]) :: L, by rw [g2]; rfl, by simp, ?_⟩
                rw [g4]
                simp
              · right
                exact ⟨g1, by rw [g2]; rfl⟩
          · rw [if_neg h10] at he
            cases he
    · right
      have hne : quoteFaultAt t a ≠ (0, 0) := fun q => by rw [q] at h0; cases h0
      rw [if_neg hne, hc]
      exact ⟨h0, rfl⟩
theorem lines_is (t : List Nat) : (quoteFault t = (0, 0) ∧ rawLines (t.length + 1) 0 [] t = .ok (linesOf t) ∧ linesOf t ≠ []) ∨
    ((quoteFault t).1 = 7 ∧ rawLines (t.length + 1) 0 [] t = .error ⟨7, (quoteFault t).2⟩) := by
  rcases rawLines_is t t.length 0 [] [] [] (Nat.zero_le _) (by omega) (.inl ⟨by simp [isNew], rfl, rfl⟩) with ⟨h1, L, h2, h3, h4⟩ | h
  · left
    have e : linesOf t = L := by
      unfold linesOf starts
      rw [h4]
      rfl
    refine ⟨h1, ?_, by rw [e]; exact h3⟩
    rw [e]
    exact h2
  · right
    exact h
end Tx
end

section
set_option autoImplicit false
set_option linter.unusedVariables false
/-! reading: faults, tables -/
namespace Tx
open VatdfBase Vatdfa

theorem names_is : ∀ (l : List Raw) (done : List Name), done.length ≤ 5 →
    (namesFault done l = (0, 0) ∧ namesFrom done l = .ok (done ++ l.map (·.bytes))) ∨
    (∃ f : Fault, f.kind ≠ 0 ∧ namesFault done l = (f.kind, f.place) ∧ namesFrom done l = .error f)
  | [], done, h => by left; simp [namesFault, namesFrom]
  | r :: l, done, h => by
    unfold namesFault namesFrom
    by_cases h5 : done.length = 5
    · right
      rw [if_pos h5, if_pos (show COLS ≤ done.length by unfold COLS; omega)]
      exact ⟨⟨5, r.place⟩, by simp, rfl, rfl⟩
    · rw [if_neg h5, if_neg (show ¬ COLS ≤ done.length by unfold COLS; omega)]
      by_cases h2 : (r.quoted || !isName r.bytes) = true
      · right
        rw [if_pos h2, if_pos h2]
        exact ⟨⟨2, r.place⟩, by simp, rfl, rfl⟩
      · rw [if_neg h2, if_neg h2]
        by_cases h4 : done.contains r.bytes = true
        · right
          rw [if_pos h4, if_pos h4]
          exact ⟨⟨4, r.place⟩, by simp, rfl, rfl⟩
        · rw [if_neg h4, if_neg h4]
          have := names_is l (done ++ [r.bytes]) (by simp; omega)
          simpa using this

theorem tells_is (r : Raw) : (tellsCell r = true ∧ valueOf r = .ok (cellOf r)) ∨ (tellsCell r = false ∧ valueOf r = .error ⟨6, r.place⟩) := by
  unfold tellsCell valueOf cellOf tellsEmpty tellsNumber
  by_cases hq : r.quoted = true
  · rw [if_pos hq]
    simp only [hq, Bool.not_true, Bool.false_and, if_neg Bool.false_ne_true]
    cases hw : isWord r.bytes <;> simp
  · have hq' : r.quoted = false := by simpa using hq
    rw [if_neg hq]
    simp only [hq', Bool.not_false, Bool.true_and]
    by_cases he : r.bytes = []
    · simp [he]
    · have h1 : r.bytes.isEmpty = false := by simp [he]
      have h2 : decide (r.bytes.length = 0) = false := by simp [he]
      simp only [h1, h2, if_neg Bool.false_ne_true]
      cases hn : numberOf r.bytes with
      | none =>
        cases hw : isWord r.bytes <;> simp
      | some z =>
        cases hc : isCell (.num z) <;> simp

theorem cells_is : ∀ (l : List Raw),
    (cellsFault l = (0, 0) ∧ allOk (l.map valueOf) = .ok (l.map cellOf)) ∨
    (∃ f : Fault, f.kind ≠ 0 ∧ cellsFault l = (f.kind, f.place) ∧ allOk (l.map valueOf) = .error f)
  | [] => by left; simp [cellsFault, allOk]
  | r :: l => by
    unfold cellsFault
    rw [List.map_cons, List.map_cons]
    unfold allOk
    rcases tells_is r with ⟨h1, h2⟩ | ⟨h1, h2⟩
    · rw [if_pos h1, h2]
      rcases cells_is l with ⟨g1, g2⟩ | ⟨f, g0, g1, g2⟩
      · left
        exact ⟨g1, by rw [g2]; rfl⟩
      · right
        exact ⟨f, g0, g1, by rw [g2]; rfl⟩
    · right
      rw [if_neg (by simp [h1]), h2]
      exact ⟨⟨6, r.place⟩, by simp, rfl, rfl⟩

theorem rows_is (n : Nat) : ∀ (ls : List (List Raw)) (k : Nat),
    (rowsFault n k ls = (0, 0) ∧ rowsFrom n k ls = .ok (ls.map fun l => l.map cellOf)) ∨
    (∃ f : Fault, f.kind ≠ 0 ∧ rowsFault n k ls = (f.kind, f.place) ∧ rowsFrom n k ls = .error f)
  | [], k => by left; simp [rowsFault, rowsFrom]
  | l :: r, k => by
    unfold rowsFault rowsFrom rowFault
    by_cases h12 : 12 ≤ k
    · right
      rw [if_pos h12, if_pos (show ROWS ≤ k from h12)]
      exact ⟨⟨5, headPlace l⟩, by simp, by simp, rfl⟩
    · rw [if_neg h12, if_neg (show ¬ ROWS ≤ k from h12)]
      by_cases hn : l.length ≠ n
      · right
        rw [if_pos hn, if_pos hn]
        exact ⟨⟨3, headPlace l⟩, by simp, by simp, rfl⟩
      · rw [if_neg hn, if_neg hn]
        rcases cells_is l with ⟨g1, g2⟩ | ⟨f, g0, g1, g2⟩
        · rw [g1, g2, if_pos rfl]
          rcases rows_is n r (k + 1) with ⟨q1, q2⟩ | ⟨f, q0, q1, q2⟩
          · left
            exact ⟨q1, by rw [q2]; rfl⟩
          · right
            exact ⟨f, q0, q1, by rw [q2]; rfl⟩
        · right
          rw [g1, g2, if_neg (by simp [g0])]
          exact ⟨f, g0, rfl, rfl⟩

/-- THE LAW of reading -/
theorem read_is (t : List Nat) :
    (textFault t = (0, 0) ∧ Vatdfa.read t = .ok (textTable t)) ∨ (∃ f : Fault, f.kind ≠ 0 ∧ textFault t = (f.kind, f.place) ∧ Vatdfa.read t = .error f) := by
  unfold textFault Vatdfa.read byteFault
  cases hb : t.findIdx? fun b => !(b == 10 || (decide (32 ≤ b) && decide (b ≤ 126))) with
  | some p =>
    right
    exact ⟨⟨1, p⟩, by simp, by simp, rfl⟩
  | none =>
    dsimp only
    rw [if_pos rfl]
    rcases lines_is t with ⟨h1, h2, h3⟩ | ⟨h1, h2⟩
    · rw [h1, if_pos rfl, h2]
      unfold linesFault textTable
      cases hL : linesOf t with
      | nil => exact absurd hL h3
      | cons h r =>
        dsimp only
        show _ ∨ (∃ f : Fault, _ ∧ _ ∧ ((namesFrom [] h).bind fun n => (rowsFrom n.length 0 r).map fun x => (⟨n, x⟩ : Table)) = .error f)
        rcases names_is h [] (by simp) with ⟨g1, g2⟩ | ⟨f, g0, g1, g2⟩
        · rw [g1, if_pos rfl]
          have e : ((Except.ok (Table.mk (h.map (·.bytes)) (r.map fun l => l.map cellOf))) : Except Fault Table) = .ok ⟨h.map (·.bytes), r.map fun l => l.map cellOf⟩ := rfl
          rcases rows_is h.length r 0 with ⟨q1, q2⟩ | ⟨f, q0, q1, q2⟩
          · left
            refine ⟨q1, ?_⟩
            show ((namesFrom [] h).bind fun n => (rowsFrom n.length 0 r).map fun x => (⟨n, x⟩ : Table)) = _
            rw [g2]
            show ((rowsFrom (([] : List Name) ++ h.map (·.bytes)).length 0 r).map fun x => (⟨[] ++ h.map (·.bytes), x⟩ : Table)) = _
            rw [List.nil_append, List.length_map, q2]
            rfl
          · right
            refine ⟨f, q0, q1, ?_⟩
            rw [g2]
            show ((rowsFrom (([] : List Name) ++ h.map (·.bytes)).length 0 r).map fun x => (⟨[] ++ h.map (·.bytes), x⟩ : Table)) = _
            rw [List.nil_append, List.length_map, q2]
            rfl
        · right
          rw [g1, if_neg (by simp [g0])]
          exact ⟨f, g0, rfl, by rw [g2]; rfl⟩
    · right
      have hne : quoteFault t ≠ (0, 0) := fun q => by rw [q] at h1; cases h1
      rw [if_neg hne, h2]
      refine ⟨⟨7, (quoteFault t).2⟩, by simp, ?_, rfl⟩
      rw [← h1]

/-! ### tables within the limits -/
structure Wf (t : Table) : Prop where
  n1 : 1 ≤ t.names.length
  n5 : t.names.length ≤ 5
  nm : ∀ n ∈ t.names, isName n = true
  nd : t.names.Nodup
  r12 : t.rows.length ≤ 12
  rl : ∀ r ∈ t.rows, r.length = t.names.length
  rc : ∀ r ∈ t.rows, ∀ c ∈ r, isCell c = true
theorem names_wf : ∀ (l : List Raw) (done : List Name), done.length ≤ 5 → (∀ n ∈ done, isName n = true) → done.Nodup → ∀ n, namesFrom done l = .ok n → n.length ≤ 5 ∧ (∀ x ∈ n, isName x = true) ∧ n.Nodup
  | [], done, h5, hn, hd, n, e => by
    simp [namesFrom] at e
    subst e
    exact ⟨h5, hn, hd⟩
  | r :: l, done, h5, hn, hd, n, e => by
    unfold namesFrom at e
    split at e
    · cases e
    · rename_i c5
      split at e
      · cases e
      · rename_i c2
        split at e
        · cases e
        · rename_i c4
          simp only [Bool.or_eq_true, not_or, Bool.not_eq_true, Bool.not_eq_false'] at c2
          refine names_wf l _ ?_ ?_ ?_ n e
          · unfold COLS at c5
            simp
            omega
          · intro x hx
            rw [List.mem_append] at hx
            rcases hx with hx | hx
            · exact hn x hx
            · simp at hx
              rw [hx]
              exact c2.2
          · rw [List.nodup_append]
            refine ⟨hd, by simp, ?_⟩
            intro a ha b hb
            simp at hb
            subst hb
            rintro rfl
            exact c4 (by simpa using ha)
theorem value_wf {r : Raw} {c : Cell} (h : valueOf r = .ok c) : isCell c = true := by
  unfold valueOf at h
  split at h
  · split at h
    · cases h; assumption
    · cases h
  · split at h
    · cases h; rfl
    · split at h
      · split at h
        · cases h; assumption
        · cases h
      · split at h
        · cases h; assumption
        · cases h
theorem allOk_wf : ∀ (l : List Raw) (cs : List Cell), allOk (l.map valueOf) = .ok cs → cs.length = l.length ∧ ∀ c ∈ cs, isCell c = true
  | [], cs, h => by
    simp [allOk] at h
    subst h
    simp
  | r :: l, cs, h => by
    rw [List.map_cons] at h
    unfold allOk at h
    cases hv : valueOf r with
    | error f => rw [hv] at h; cases h
    | ok c =>
      rw [hv] at h
      cases ha : allOk (l.map valueOf) with
      | error f => rw [ha] at h; cases h
      | ok ds =>
        rw [ha] at h
        have e : c :: ds = cs := by
          injection h
        subst e
        obtain ⟨h1, h2⟩ := allOk_wf l ds ha
        refine ⟨by simp [h1], ?_⟩
        intro x hx
        rcases List.mem_cons.mp hx with rfl | hx
        · exact value_wf hv
        · exact h2 x hx
theorem rows_wf (n : Nat) : ∀ (ls : List (List Raw)) (k : Nat) (rs : List Row), k ≤ 12 → rowsFrom n k ls = .ok rs → k + rs.length ≤ 12 ∧ ∀ r ∈ rs, r.length = n ∧ ∀ c ∈ r, isCell c = true
  | [], k, rs, hk, h => by
    simp [rowsFrom] at h
    subst h
    simp [hk]
  | l :: ls, k, rs, hk, h => by
    unfold rowsFrom at h
    split at h
    · cases h
    · rename_i c12
      unfold ROWS at c12
      split at h
      · cases h
      · rename_i cn
        cases ha : allOk (l.map valueOf) with
        | error f => rw [ha] at h; cases h
        | ok cs =>
          rw [ha] at h
          cases hr : rowsFrom n (k + 1) ls with
          | error f =>
            have h' : ((rowsFrom n (k + 1) ls).map fun y => cs :: y) = .ok rs := h
            rw [hr] at h'
            cases h'
          | ok ds =>
            have h' : ((rowsFrom n (k + 1) ls).map fun y => cs :: y) = .ok rs := h
            rw [hr] at h'
            have e : cs :: ds = rs := by injection h'
            subst e
            obtain ⟨h1, h2⟩ := rows_wf n ls (k + 1) ds (by omega) hr
            obtain ⟨h3, h4⟩ := allOk_wf l cs ha
            refine ⟨by simp; omega, ?_⟩
            intro r hr
            rcases List.mem_cons.mp hr with rfl | hr
            · exact ⟨by rw [h3]; simpa using cn, h4⟩
            · exact h2 r hr
theorem names_len : ∀ (l : List Raw) (done n : List Name), namesFrom done l = .ok n → n.length = done.length + l.length
  | [], done, n, h => by
    simp [namesFrom] at h
    subst h
    simp
  | r :: l, done, n, h => by
    unfold namesFrom at h
    split at h
    · cases h
    · split at h
      · cases h
      · split at h
        · cases h
        · have := names_len l _ n h
          simp at this ⊢
          omega
theorem lineStep_mem (t : List Nat) : ∀ (as : List Nat) (st : List (List Raw)), (∀ l ∈ st, l ≠ []) → ∀ l ∈ as.foldl (lineStep t) st, l ≠ []
  | [], st, h => h
  | a :: as, st, h => by
    rw [List.foldl_cons]
    refine lineStep_mem t as _ ?_
    unfold lineStep
    split
    · rw [addLast_snoc]
      intro l hl
      rw [List.mem_append] at hl
      rcases hl with hl | hl
      · exact h l hl
      · simp at hl
        rw [hl]
        simp
    · rcases List.eq_nil_or_concat st with rfl | ⟨d, e, rfl⟩
      · simp [addLast]
      · rw [List.concat_eq_append] at h ⊢
        rw [addLast_snoc]
        intro l hl
        rw [List.mem_append] at hl
        rcases hl with hl | hl
        · exact h l (by simp [hl])
        · simp at hl
          rw [hl]
          simp
theorem linesOf_ne (t : List Nat) : ∀ l ∈ linesOf t, l ≠ [] := lineStep_mem t _ [] (by simp)
theorem read_wf {t : List Nat} {x : Table} (h : Vatdfa.read t = .ok x) : Wf x := by
  unfold Vatdfa.read at h
  split at h
  · cases h
  · rcases lines_is t with ⟨h1, h2, h3⟩ | ⟨h1, h2⟩
    · rw [h2] at h
      cases hL : linesOf t with
      | nil => exact absurd hL h3
      | cons l r =>
        rw [hL] at h
        have h' : ((namesFrom [] l).bind fun n => (rowsFrom n.length 0 r).map fun x => (⟨n, x⟩ : Table)) = .ok x := h
        cases hn : namesFrom [] l with
        | error f => rw [hn] at h'; cases h'
        | ok n =>
          rw [hn] at h'
          have h'' : ((rowsFrom n.length 0 r).map fun x => (⟨n, x⟩ : Table)) = .ok x := h'
          cases hr : rowsFrom n.length 0 r with
          | error f => rw [hr] at h''; cases h''
          | ok rs =>
            rw [hr] at h''
            have e : (⟨n, rs⟩ : Table) = x := by injection h''
            subst e
            obtain ⟨a1, a2, a3⟩ := names_wf l [] (by simp) (by simp) (by simp) n hn
            obtain ⟨b1, b2⟩ := rows_wf n.length r 0 rs (by omega) hr
            have hl : l ≠ [] := linesOf_ne t l (by rw [hL]; simp)
            have hlen := names_len l [] n hn
            have hl0 : 0 < l.length := List.length_pos_iff.mpr hl
            simp only [List.length_nil, Nat.zero_add] at hlen
            exact ⟨by rw [hlen]; exact hl0, a1, a2, a3, by simpa using b1, fun r hr => (b2 r hr).1, fun r hr => (b2 r hr).2⟩
    · rw [h2] at h
      cases h
end Tx
end

section
set_option autoImplicit false
set_option linter.unusedVariables false
/-! numbers as texts -/
namespace Tx
open VatdfBase Vatdfa

def digitsFrom (u : List Nat) : Nat := if u.head? = some 45 then 1 else 0
theorem digitsFrom_le (u : List Nat) : digitsFrom u ≤ u.length := by
  unfold digitsFrom
  cases u with
  | nil => simp
  | cons n r => simp; split <;> omega
theorem digitsFrom_le1 (u : List Nat) : digitsFrom u ≤ 1 := by
  unfold digitsFrom
  split <;> omega
theorem numberOf_minus (r : List Nat) : numberOf (45 :: r) = if (isPlain r && r != [48]) = true then some (-(numVal r : Int)) else none := rfl
theorem numberOf_plain (u : List Nat) (h : ¬ u.head? = some 45) : numberOf u = if isPlain u = true then some (numVal u : Int) else none := by
  unfold numberOf
  split
  · rename_i r
    exact absurd rfl h
  · rfl
/-- what is behind the minus, if there is one -/
theorem plain_parts (t : List Nat) : isPlain t = true ↔ t ≠ [] ∧ t.all isDigit = true ∧ (t.length = 1 ∨ t.head? ≠ some 48) := by
  unfold isPlain
  simp [Bool.and_eq_true, Bool.or_eq_true]
theorem number_some {u : List Nat} (h1 : digitsFrom u ≠ u.length) (h2 : (u.drop (digitsFrom u)).all isDigit = true) : (numberOf u).isSome = (decide (u[digitsFrom u]? ≠ some 48) || decide (u.length = 1)) := by
  by_cases hm : u.head? = some 45
  · cases u with
    | nil => simp at hm
    | cons n r =>
      simp at hm
      subst hm
      have hd : digitsFrom (45 :: r) = 1 := by simp [digitsFrom]
      rw [hd] at h1 h2 ⊢
      rw [numberOf_minus]
      simp only [List.drop_succ_cons, List.drop_zero, List.length_cons] at h1 h2
      have hr : r ≠ [] := fun q => h1 (by simp [q])
      have hl : decide ((45 :: r).length = 1) = false := by simp [hr]
      rw [hl, Bool.or_false]
      have hg : (45 :: r)[1]? = r.head? := by cases r <;> rfl
      rw [hg]
      by_cases h48 : r.head? = some 48
      · have : ¬ (isPlain r && r != [48]) = true := by
          rw [Bool.and_eq_true, plain_parts]
          rintro ⟨⟨_, _, q⟩, q2⟩
          rcases q with q | q
          · cases r with
            | nil => simp at q
            | cons a s =>
              simp at q h48
              subst q h48
              simp at q2
          · exact q h48
        rw [if_neg this]
        simp [h48]
      · have : (isPlain r && r != [48]) = true := by
          rw [Bool.and_eq_true, plain_parts]
          refine ⟨⟨hr, h2, .inr h48⟩, ?_⟩
          rw [bne_iff_ne]
          intro q
          rw [q] at h48
          exact h48 rfl
        rw [if_pos this]
        simp [h48]
  · have hd : digitsFrom u = 0 := by simp [digitsFrom, hm]
    rw [hd] at h1 h2 ⊢
    rw [List.drop_zero] at h2
    rw [numberOf_plain u hm]
    have hu : u ≠ [] := fun q => h1 (by simp [q])
    have hg : u[0]? = u.head? := by cases u <;> rfl
    rw [hg]
    by_cases hp : isPlain u = true
    · rw [if_pos hp]
      have := (plain_parts u).mp hp
      rcases this.2.2 with q | q
      · simp [q]
      · simp [q]
    · rw [if_neg hp]
      rw [plain_parts] at hp
      have hn : ¬ (u.length = 1 ∨ u.head? ≠ some 48) := fun q => hp ⟨hu, h2, q⟩
      rw [not_or, Decidable.not_not] at hn
      simp [hn.1, hn.2]
theorem number_none1 {u : List Nat} (h1 : digitsFrom u = u.length) : (numberOf u).isSome = false := by
  by_cases hm : u.head? = some 45
  · cases u with
    | nil => simp at hm
    | cons n r =>
      simp at hm
      subst hm
      have hd : digitsFrom (45 :: r) = 1 := by simp [digitsFrom]
      rw [hd] at h1
      have : r = [] := by
        cases r with
        | nil => rfl
        | cons a s => simp at h1
      subst this
      rfl
  · have hd : digitsFrom u = 0 := by simp [digitsFrom, hm]
    rw [hd] at h1
    have : u = [] := List.length_eq_zero_iff.mp h1.symm
    subst this
    rfl
theorem number_digits {u : List Nat} {z : Int} (h : numberOf u = some z) : digitsFrom u ≠ u.length ∧ (u.drop (digitsFrom u)).all isDigit = true ∧ z = if digitsFrom u = 1 then -(numVal (u.drop (digitsFrom u)) : Int) else (numVal (u.drop (digitsFrom u)) : Int) := by
  have h1 : digitsFrom u ≠ u.length := fun q => by
    have := number_none1 q
    rw [h] at this
    cases this
  refine ⟨h1, ?_⟩
  by_cases hm : u.head? = some 45
  · cases u with
    | nil => simp at hm
    | cons n r =>
      simp at hm
      subst hm
      have hd : digitsFrom (45 :: r) = 1 := by simp [digitsFrom]
      rw [hd, if_pos rfl]
      rw [numberOf_minus] at h
      by_cases hp : (isPlain r && r != [48]) = true
      · rw [if_pos hp] at h
        rw [Bool.and_eq_true, plain_parts] at hp
        exact ⟨hp.1.2.1, (Option.some.inj h).symm⟩
      · rw [if_neg hp] at h
        cases h
  · have hd : digitsFrom u = 0 := by simp [digitsFrom, hm]
    rw [hd, if_neg (by decide), List.drop_zero]
    rw [numberOf_plain u hm] at h
    by_cases hp : isPlain u = true
    · rw [if_pos hp] at h
      exact ⟨((plain_parts u).mp hp).2.1, (Option.some.inj h).symm⟩
    · rw [if_neg hp] at h
      cases h
theorem number_none2 {u : List Nat} (h2 : (u.drop (digitsFrom u)).all isDigit = false) : (numberOf u).isSome = false := by
  cases h : numberOf u with
  | none => rfl
  | some z =>
    rw [(number_digits h).2.1] at h2
    cases h2
theorem numVal_snoc (t : List Nat) (b : Nat) : numVal (t ++ [b]) = 10 * numVal t + (b - 48) := by
  unfold numVal
  rw [List.foldl_append]
  rfl
theorem numVal_lt : ∀ (n : Nat) (t : List Nat), t.length = n → (∀ b ∈ t, b ≤ 57) → numVal t < 10 ^ n
  | 0, t, h, _ => by
    have : t = [] := List.length_eq_zero_iff.mp h
    subst this
    decide
  | n + 1, t, h, hb => by
    rcases List.eq_nil_or_concat t with rfl | ⟨s, b, rfl⟩
    · simp at h
    · rw [List.concat_eq_append] at h hb ⊢
      rw [numVal_snoc]
      have ih := numVal_lt n s (by simpa using h) fun c hc => hb c (by simp [hc])
      have := hb b (by simp)
      rw [Nat.pow_succ]
      omega

/-! decimal -/
def turnedRest (n : Nat) : List Nat := if n = 0 then [] else (48 + n % 10) :: turnedRest (n / 10)
termination_by n
decreasing_by omega
theorem turnedRest_zero : turnedRest 0 = [] := by rw [turnedRest]; rfl
theorem turnedRest_pos {n : Nat} (h : n ≠ 0) : turnedRest n = (48 + n % 10) :: turnedRest (n / 10) := by rw [turnedRest, if_neg h]
theorem digitChar_nat {d : Nat} (h : d < 10) : (Nat.digitChar d).toNat = 48 + d := by
  match d, h with
  | 0, _ => rfl
  | 1, _ => rfl
  | 2, _ => rfl
  | 3, _ => rfl
  | 4, _ => rfl
  | 5, _ => rfl
  | 6, _ => rfl
  | 7, _ => rfl
  | 8, _ => rfl
  | 9, _ => rfl
  | n + 10, h => exact absurd h (by omega)
theorem digits_is (n : Nat) : Vatdfa.digits n = ((48 + n % 10) :: turnedRest (n / 10)).reverse := by
  induction n using Nat.strongRecOn with
  | _ n ih =>
    unfold Vatdfa.digits
    by_cases h : n < 10
    · rw [Nat.toDigits_of_lt_base h, Nat.div_eq_of_lt h, turnedRest_zero, Nat.mod_eq_of_lt h]
      simp [digitChar_nat h]
    · have h10 : 10 ≤ n := by omega
      rw [Nat.toDigits_of_base_le (by decide) h10, List.map_append]
      have := ih (n / 10) (by omega)
      unfold Vatdfa.digits at this
      rw [this, turnedRest_pos (n := n / 10) (by omega)]
      simp [digitChar_nat (Nat.mod_lt n (by decide : 0 < 10))]
theorem turned_len : ∀ (k n : Nat), n < 10 ^ k → (turnedRest n).length ≤ k
  | 0, n, h => by
    have : n = 0 := by simpa using h
    subst this
    rw [turnedRest_zero]
    simp
  | k + 1, n, h => by
    by_cases h0 : n = 0
    · subst h0
      rw [turnedRest_zero]
      simp
    · rw [turnedRest_pos h0]
      have := turned_len k (n / 10) (by rw [Nat.pow_succ] at h; omega)
      simp
      omega
end Tx
end

section
set_option autoImplicit false
set_option linter.unusedVariables false
/-! orders, alike -/
namespace Tx
open VatdfBase Vatdfa

theorem perm_of_count {α : Type} [BEq α] [LawfulBEq α] : ∀ (l m : List α), l.length = m.length → (∀ r ∈ l, l.count r ≤ m.count r) → l.Perm m
  | [], m, hl, _ => by
    have : m = [] := List.length_eq_zero_iff.mp hl.symm
    subst this
    exact .nil
  | a :: l, m, hl, h => by
    have ha : a ∈ m := by
      have := h a List.mem_cons_self
      rw [List.count_cons_self] at this
      exact List.count_pos_iff.mp (by omega)
    have hp := List.perm_cons_erase ha
    refine (List.Perm.cons a (perm_of_count l (m.erase a) ?_ fun r hr => ?_)).trans hp.symm
    · have := List.length_erase_of_mem ha
      simp only [List.length_cons] at hl
      omega
    · have := h r (List.mem_cons_of_mem _ hr)
      by_cases e : r = a
      · subst e
        rw [List.count_cons_self] at this
        rw [List.count_erase_self]
        omega
      · rw [List.count_cons_of_ne (fun q => e q.symm)] at this
        rw [List.count_erase_of_ne (fun q => e q)]
        exact this
theorem sameRows_iff (l m : List Row) : sameRows l m = true ↔ l.Perm m := by
  unfold sameRows
  rw [Bool.and_eq_true, beq_iff_eq, List.all_eq_true]
  constructor
  · rintro ⟨h1, h2⟩
    refine perm_of_count l m h1 fun r hr => ?_
    have := h2 r hr
    rw [beq_iff_eq] at this
    exact Nat.le_of_eq this
  · intro h
    refine ⟨h.length_eq, fun r _ => ?_⟩
    rw [beq_iff_eq]
    exact h.countP_eq _

/-! ### rows put in order -/
theorem putRow_perm (cs : List Nat) (x : Nat × Row) : ∀ l, (putRow cs x l).Perm (x :: l)
  | [] => .refl _
  | y :: l => by
    unfold putRow
    split
    · exact .refl _
    · exact (List.Perm.cons y (putRow_perm cs x l)).trans (.swap x y l)
/-- a list in order by le; x comes behind what it is not less than -/
theorem putRow_sorted (cs : List Nat) (le : Nat × Row → Nat × Row → Prop) (tr : ∀ a b c, le a b → le b c → le a c) (x : Nat × Row) :
    ∀ l, (∀ y ∈ l, (rowLess (pick cs x.2) (pick cs y.2) = true → le x y) ∧ (rowLess (pick cs x.2) (pick cs y.2) = false → le y x)) → l.Pairwise le → (putRow cs x l).Pairwise le
  | [], _, _ => by unfold putRow; simp
  | y :: l, h, hs => by
    unfold putRow
    obtain ⟨h1, h2⟩ := h y List.mem_cons_self
    rw [List.pairwise_cons] at hs
    split
    · rename_i hc
      rw [List.pairwise_cons]
      refine ⟨fun z hz => ?_, List.pairwise_cons.mpr hs⟩
      rcases List.mem_cons.mp hz with rfl | hz
      · exact h1 hc
      · exact tr _ _ _ (h1 hc) (hs.1 z hz)
    · rename_i hc
      rw [List.pairwise_cons]
      refine ⟨fun z hz => ?_, putRow_sorted cs le tr x l (fun z hz => h z (List.mem_cons_of_mem _ hz)) hs.2⟩
      have := (putRow_perm cs x l).mem_iff.mp hz
      rcases List.mem_cons.mp this with rfl | hz
      · exact h2 (by simpa using hc)
      · exact hs.1 z hz
def putAll (cs : List Nat) (xs : List (Nat × Row)) : List (Nat × Row) := xs.foldl (fun l x => putRow cs x l) []
theorem putAll_perm (cs : List Nat) : ∀ (xs l : List (Nat × Row)), (xs.foldl (fun l x => putRow cs x l) l).Perm (l ++ xs)
  | [], l => by simp
  | x :: xs, l => by
    rw [List.foldl_cons]
    refine (putAll_perm cs xs _).trans ?_
    refine ((putRow_perm cs x l).append_right xs).trans ?_
    exact List.perm_middle.symm
theorem putAll_sorted (cs : List Nat) (le : Nat × Row → Nat × Row → Prop) (tr : ∀ a b c, le a b → le b c → le a c)
    (hle : ∀ x y : Nat × Row, y.1 < x.1 → (rowLess (pick cs x.2) (pick cs y.2) = true → le x y) ∧ (rowLess (pick cs x.2) (pick cs y.2) = false → le y x)) :
    ∀ (xs l : List (Nat × Row)), l.Pairwise le → (∀ y ∈ l, ∀ x ∈ xs, y.1 < x.1) → xs.Pairwise (fun a b => a.1 < b.1) → (xs.foldl (fun l x => putRow cs x l) l).Pairwise le
  | [], l, h, _, _ => h
  | x :: xs, l, h, hb, hx => by
    rw [List.foldl_cons]
    rw [List.pairwise_cons] at hx
    refine putAll_sorted cs le tr hle xs _ (putRow_sorted cs le tr x l (fun y hy => hle x y (hb y hy x List.mem_cons_self)) h) ?_ hx.2
    intro y hy z hz
    have := (putRow_perm cs x l).mem_iff.mp hy
    rcases List.mem_cons.mp this with rfl | hy
    · exact hx.1 z hz
    · exact hb y hy z (List.mem_cons_of_mem _ hz)
def rowsNum (t : Table) : List (Nat × Row) := t.rows.zipIdx.map fun r => (r.2, r.1)
theorem sorted_is (t : Table) (cs : List Nat) : Vatdfa.sorted t cs = (putAll cs (rowsNum t)).map (·.1) := rfl
theorem rowsNum_get (t : Table) (i : Nat) : (rowsNum t)[i]? = (t.rows[i]?).map fun r => (i, r) := by
  unfold rowsNum
  rw [List.getElem?_map, List.getElem?_zipIdx]
  cases t.rows[i]? <;> simp
theorem rowsNum_pair (t : Table) : (rowsNum t).Pairwise (fun a b => a.1 < b.1) := by
  rw [List.pairwise_iff_getElem]
  intro i j hi hj hij
  have h1 := rowsNum_get t i
  have h2 := rowsNum_get t j
  rw [List.getElem?_eq_getElem hi] at h1
  rw [List.getElem?_eq_getElem hj] at h2
  cases q1 : t.rows[i]? with
  | none => rw [q1] at h1; cases h1
  | some r1 =>
    cases q2 : t.rows[j]? with
    | none => rw [q2] at h2; cases h2
    | some r2 =>
      rw [q1] at h1
      rw [q2] at h2
      have e1 := Option.some.inj h1
      have e2 := Option.some.inj h2
      rw [e1, e2]
      exact hij
/-- what ordered_rows places -/
def placed (t : Table) (cs : List Nat) (n : Nat) : List (List Cell × Nat) := (List.range n).map fun k => (pick cs (t.row k), k)
theorem placed_is (t : Table) (cs : List Nat) : (rowsNum t).map (fun x => (pick cs x.2, x.1)) = placed t cs t.rows.length := by
  apply List.ext_getElem?
  intro i
  unfold placed
  rw [List.getElem?_map, List.getElem?_map, rowsNum_get]
  cases q : t.rows[i]? with
  | none =>
    rw [List.getElem?_eq_none (by rw [List.length_range]; exact List.getElem?_eq_none_iff.mp q)]
    rfl
  | some r =>
    rw [List.getElem?_range (List.getElem?_eq_some_iff.mp q).1]
    unfold Table.row
    simp [q]

/-! ### alike -/
theorem mapM_some {α β : Type} {f : α → Option β} {g : α → β} : ∀ {l : List α}, (∀ a ∈ l, f a = some (g a)) → l.mapM f = some (l.map g)
  | [], _ => rfl
  | a :: l, h => by
    rw [List.mapM_cons, h a List.mem_cons_self, mapM_some fun b hb => h b (List.mem_cons_of_mem _ hb)]
    rfl
theorem mapM_none {α β : Type} {f : α → Option β} : ∀ {l : List α}, (∃ a ∈ l, f a = none) → l.mapM f = none
  | [], h => by obtain ⟨a, ha, _⟩ := h; simp at ha
  | a :: l, h => by
    rw [List.mapM_cons]
    cases e : f a with
    | none => rfl
    | some b =>
      have : l.mapM f = none := mapM_none (by
        obtain ⟨c, hc, hn⟩ := h
        rcases List.mem_cons.mp hc with rfl | hc
        · rw [e] at hn; cases hn
        · exact ⟨c, hc, hn⟩)
      rw [this]
      rfl
/-- where each name stands in another table -/
def places (ns ms : List Name) : List Nat := ns.map fun n => ms.findIdx fun m => m == n
theorem place_some {ms : List Name} {n : Name} (h : n ∈ ms) : (ms.findIdx? fun m => m == n) = some (ms.findIdx fun m => m == n) := by
  rw [List.findIdx?_eq_some_iff_findIdx_eq]
  exact ⟨List.findIdx_lt_length_of_exists ⟨n, h, beq_self_eq_true n⟩, rfl⟩
theorem place_lt {ms : List Name} {n : Name} (h : n ∈ ms) : (ms.findIdx fun m => m == n) < ms.length := List.findIdx_lt_length_of_exists ⟨n, h, beq_self_eq_true n⟩
theorem inOrder_some {a b : Table} (h : a.names.Perm b.names) : inOrder a b = some ⟨a.names, b.rows.map (pick (places a.names b.names))⟩ := by
  unfold inOrder
  rw [mapM_some (g := fun n => b.names.findIdx fun m => m == n) fun n hn => place_some (h.mem_iff.mp hn)]
  show (if b.names.length = a.names.length then some _ else none) = _
  rw [if_pos h.length_eq.symm]
  rfl
theorem inOrder_none {a b : Table} (wa : Wf a) (h : ¬ a.names.Perm b.names) : inOrder a b = none := by
  unfold inOrder
  by_cases hs : ∃ n ∈ a.names, (b.names.findIdx? fun m => m == n) = none
  · rw [mapM_none hs]
    rfl
  · have hin : ∀ n ∈ a.names, n ∈ b.names := by
      intro n hn
      cases e : b.names.findIdx? fun m => m == n with
      | none => exact absurd ⟨n, hn, e⟩ hs
      | some i =>
        rw [List.findIdx?_eq_some_iff_getElem] at e
        obtain ⟨hi, h1, _⟩ := e
        rw [beq_iff_eq] at h1
        rw [← h1]
        exact List.getElem_mem hi
    rw [mapM_some (g := fun n => b.names.findIdx fun m => m == n) fun n hn => place_some (hin n hn)]
    show (if b.names.length = a.names.length then some _ else none) = none
    by_cases hl : b.names.length = a.names.length
    · exfalso
      refine h (perm_of_count _ _ hl.symm fun n hn => ?_)
      have h1 := List.nodup_iff_count.mp wa.nd n
      have h2 : 0 < b.names.count n := List.count_pos_iff.mpr (hin n hn)
      omega
    · rw [if_neg hl]
theorem pick_all_cols {r : Row} {cs : List Nat} (h : cs = List.range r.length) : pick cs r = r := by
  subst h
  unfold pick
  apply List.ext_getElem?
  intro i
  rw [List.getElem?_map]
  by_cases hi : i < r.length
  · rw [List.getElem?_range hi]
    unfold cellAt
    simp [List.getElem?_eq_getElem hi]
  · rw [List.getElem?_eq_none (by rw [List.length_range]; omega), List.getElem?_eq_none (by omega)]
    rfl
theorem places_self {ns : List Name} (h : ns.Nodup) : places ns ns = List.range ns.length := by
  unfold places
  apply List.ext_getElem?
  intro i
  rw [List.getElem?_map]
  by_cases hi : i < ns.length
  · rw [List.getElem?_range hi, List.getElem?_eq_getElem hi]
    show some (ns.findIdx fun m => m == ns[i]) = some i
    congr 1
    rw [List.findIdx_eq hi]
    refine ⟨beq_self_eq_true _, fun j hj => ?_⟩
    rw [beq_eq_false_iff_ne]
    intro q
    have := (List.getElem_inj h).mp q
    omega
  · rw [List.getElem?_eq_none (by omega), List.getElem?_eq_none (by rw [List.length_range]; omega)]
    rfl
/-- the program's way -/
def alikeP (a b : Table) : Nat :=
  if a.names = b.names then (if a.rows = b.rows then 3 else if sameRows a.rows b.rows = true then 2 else 0)
  else if a.names.Perm b.names then (if sameRows a.rows (b.rows.map (pick (places a.names b.names))) = true then 1 else 0) else 0
theorem alike_is {a b : Table} (wa : Wf a) (wb : Wf b) : alikeP a b = Vatdfa.alike a b := by
  unfold alikeP Vatdfa.alike
  by_cases hn : a.names = b.names
  · rw [if_pos hn]
    by_cases hr : a.rows = b.rows
    · have e : a = b := by
        cases a
        cases b
        simp only [Table.mk.injEq]
        exact ⟨hn, hr⟩
      rw [if_pos hr, if_pos e]
    · have e : ¬ a = b := fun q => hr (by rw [q])
      rw [if_neg hr, if_neg e]
      by_cases hs : sameRows a.rows b.rows = true
      · rw [if_pos hs, if_pos ⟨hn, hs⟩]
      · rw [if_neg hs, if_neg fun q => hs q.2]
        rw [inOrder_some (by rw [hn])]
        dsimp only
        have e2 : b.rows.map (pick (places a.names b.names)) = b.rows := by
          rw [hn, places_self wb.nd]
          have : b.rows.map (pick (List.range b.names.length)) = b.rows.map id := List.map_congr_left fun r hr => pick_all_cols (by rw [wb.rl r hr])
          rw [this, List.map_id]
        rw [e2, if_neg hs]
  · have e : ¬ a = b := fun q => hn (by rw [q])
    rw [if_neg hn, if_neg e, if_neg (show ¬ (a.names = b.names ∧ sameRows a.rows b.rows = true) from fun q => hn q.1)]
    by_cases hp : a.names.Perm b.names
    · rw [if_pos hp, inOrder_some hp]
    · rw [if_neg hp, inOrder_none wa hp]
end Tx
end

section
set_option autoImplicit false
set_option linter.unusedVariables false
/-! tables and cells out of lists of numbers -/
namespace Tx
open VatdfBase VatdfFlat

abbrev TkS := Nat × Bool
def jat (l : List Int) (k : Nat) : Int := (l[k]?).getD 0
def tNum (l : List Int) (a b : Int) (s : TkS) : Int × TkS :=
  if s.2 = true ∧ s.1 < l.length ∧ a ≤ jat l s.1 ∧ jat l s.1 ≤ b then (jat l s.1, (s.1 + 1, true)) else (a, (s.1, false))
def tRep {A S : Type} (f : S → A × S) : Nat → S → List A × S
  | 0, s => ([], s)
  | n + 1, s => ((tRep f n s).1 ++ [(f (tRep f n s).2).1], (f (tRep f n s).2).2)
theorem tRep_front {A S : Type} (f : S → A × S) : ∀ (n : Nat) (s : S), tRep f (n + 1) s = ((f s).1 :: (tRep f n (f s).2).1, (tRep f n (f s).2).2)
  | 0, s => rfl
  | n + 1, s => by
    have ih := tRep_front f n s
    show ((tRep f (n + 1) s).1 ++ [(f (tRep f (n + 1) s).2).1], (f (tRep f (n + 1) s).2).2) = _
    rw [ih]
    rfl
theorem tRep_len {A S : Type} (f : S → A × S) : ∀ (n : Nat) (s : S), (tRep f n s).1.length = n
  | 0, s => rfl
  | n + 1, s => by
    show ((tRep f n s).1 ++ [_]).length = n + 1
    rw [List.length_append, tRep_len f n s]
    rfl
def tNat (l : List Int) (a b : Nat) (s : TkS) : Nat × TkS := ((tNum l a b s).1.toNat, (tNum l a b s).2)
def tByte (l : List Int) : TkS → Nat × TkS := tNat l 32 126
def tListed {A : Type} (l : List Int) (a b : Nat) (f : TkS → A × TkS) (s : TkS) : List A × TkS := tRep f (tNat l a b s).1 (tNat l a b s).2
def tWord (l : List Int) : TkS → List Nat × TkS := tListed l 1 8 (tByte l)
def tCell (l : List Int) (s : TkS) : Cell × TkS :=
  if (tNat l 0 2 s).1 = 0 then (.empty, (tNat l 0 2 s).2)
  else if (tNat l 0 2 s).1 = 1 then (.num (tNum l (-1000000) 1000000 (tNat l 0 2 s).2).1, (tNum l (-1000000) 1000000 (tNat l 0 2 s).2).2)
  else (.word (tWord l (tNat l 0 2 s).2).1, (tWord l (tNat l 0 2 s).2).2)
def tHead (l : List Int) : TkS → List (List Nat) × TkS := tListed l 1 5 (tWord l)
def tRow (l : List Int) (n : Nat) : TkS → List Cell × TkS := tRep (tCell l) n
def tRows (l : List Int) (n : Nat) : TkS → List (List Cell) × TkS := tListed l 0 12 (tRow l n)
def tWhole (l : List Int) (s : TkS) : Bool := s.2 && decide (s.1 = l.length)
def takenCell (l : List Int) : Option Cell := if tWhole l (tCell l (0, true)).2 = true then some (tCell l (0, true)).1 else none
def goodTo (ns : List (List Nat)) (n : Nat) : Bool := (List.range n).all fun k => isName ((ns[k]?).getD []) && !(ns.take k).contains ((ns[k]?).getD [])
def namesGood (ns : List (List Nat)) : Bool := goodTo ns ns.length
def takenTable (l : List Int) : Option Table :=
  if (tWhole l (tRows l (tHead l (0, true)).1.length (tHead l (0, true)).2).2 && namesGood (tHead l (0, true)).1) = true
  then some ⟨(tHead l (0, true)).1, (tRows l (tHead l (0, true)).1.length (tHead l (0, true)).2).1⟩ else none

/-! ### what is asked for is told in range -/
theorem tNum_range (l : List Int) {a b : Int} (h : a ≤ b) (s : TkS) : a ≤ (tNum l a b s).1 ∧ (tNum l a b s).1 ≤ b := by
  unfold tNum
  split
  · rename_i c; exact ⟨c.2.2.1, c.2.2.2⟩
  · exact ⟨Int.le_refl _, h⟩
theorem tNat_int (l : List Int) {a b : Nat} (h : a ≤ b) (s : TkS) : ((tNat l a b s).1 : Int) = (tNum l a b s).1 := by
  have := tNum_range l (a := a) (b := b) (by omega) s
  unfold tNat
  dsimp only
  omega
theorem tNat_range (l : List Int) {a b : Nat} (h : a ≤ b) (s : TkS) : a ≤ (tNat l a b s).1 ∧ (tNat l a b s).1 ≤ b := by
  have h1 := tNum_range l (a := a) (b := b) (by omega) s
  have h2 := tNat_int l h s
  omega
/-! ### a mirror beside a reader -/
structure Sim {A : Type} (l : List Int) (f : TkS → A × TkS) (R : Reader A) : Prop where
  good : ∀ p, p ≤ l.length → (∃ a q, q ≤ l.length ∧ R (l.drop p) = some (a, l.drop q) ∧ f (p, true) = (a, (q, true))) ∨ (R (l.drop p) = none ∧ (f (p, true)).2.2 = false)
  bad : ∀ p, (f (p, false)).2.2 = false
theorem drop_at {l : List Int} {p : Nat} (h : p < l.length) : l.drop p = jat l p :: l.drop (p + 1) := by
  rw [List.drop_eq_getElem_cons h]
  congr 1
  unfold jat
  rw [List.getElem?_eq_getElem h]
  rfl
theorem readNat_cons (a b : Nat) (z : Int) (r : List Int) : readNat a b (z :: r) = if (a : Int) ≤ z ∧ z ≤ (b : Int) then some (z.toNat, r) else none := rfl
theorem readNat_nil (a b : Nat) : readNat a b [] = none := rfl
theorem sim_nat (l : List Int) (a b : Nat) : Sim l (tNat l a b) (readNat a b) where
  good p hp := by
    by_cases h : p < l.length
    · rw [drop_at h, readNat_cons]
      unfold tNat tNum
      by_cases hc : (a : Int) ≤ jat l p ∧ jat l p ≤ (b : Int)
      · left
        refine ⟨_, p + 1, by omega, by rw [if_pos hc], ?_⟩
        rw [if_pos ⟨rfl, h, hc.1, hc.2⟩]
      · right
        rw [if_neg hc, if_neg fun q => hc ⟨q.2.2.1, q.2.2.2⟩]
        exact ⟨rfl, rfl⟩
    · right
      have : l.drop p = [] := List.drop_eq_nil_iff.mpr (by omega)
      rw [this]
      refine ⟨rfl, ?_⟩
      unfold tNat tNum
      rw [if_neg fun q => h q.2.1]
  bad p := by
    unfold tNat tNum
    rw [if_neg fun q => by cases q.1]
theorem bad_times {A : Type} {f : TkS → A × TkS} (hb : ∀ p, (f (p, false)).2.2 = false) : ∀ (n : Nat) (s : TkS), s.2 = false → (tRep f n s).2.2 = false
  | 0, s, h => h
  | n + 1, s, h => by
    show (f (tRep f n s).2).2.2 = false
    have := bad_times hb n s h
    generalize (tRep f n s).2 = st at this ⊢
    obtain ⟨p, b⟩ := st
    change b = false at this
    subst this
    exact hb p
theorem sim_times {A : Type} {l : List Int} {f : TkS → A × TkS} {R : Reader A} (h : Sim l f R) : ∀ n, Sim l (tRep f n) (readTimes R n)
  | 0 => ⟨fun p hp => .inl ⟨[], p, hp, rfl, rfl⟩, fun p => rfl⟩
  | n + 1 => by
    have ih := sim_times h n
    refine ⟨fun p hp => ?_, fun p => bad_times h.bad (n + 1) (p, false) rfl⟩
    rw [tRep_front]
    show (∃ a q, _ ∧ ((R (l.drop p)).bind fun u => (readTimes R n u.2).map fun v => (u.1 :: v.1, v.2)) = _ ∧ _) ∨ (((R (l.drop p)).bind fun u => (readTimes R n u.2).map fun v => (u.1 :: v.1, v.2)) = none ∧ _)
    rcases h.good p hp with ⟨a, q, hq, h1, h2⟩ | ⟨h1, h2⟩
    · rw [h1, h2]
      rcases ih.good q hq with ⟨as, q', hq', h3, h4⟩ | ⟨h3, h4⟩
      · left
        refine ⟨a :: as, q', hq', ?_, ?_⟩
        · show (readTimes R n (l.drop q)).map _ = _
          rw [h3]
          rfl
        · dsimp only
          rw [h4]
      · right
        refine ⟨?_, ?_⟩
        · show (readTimes R n (l.drop q)).map _ = _
          rw [h3]
          rfl
        · exact h4
    · right
      rw [h1]
      refine ⟨rfl, ?_⟩
      dsimp only
      exact bad_times h.bad n _ h2
theorem sim_listed {A : Type} {l : List Int} {f : TkS → A × TkS} {R : Reader A} (h : Sim l f R) (a b : Nat) : Sim l (tListed l a b f) (readListed a b R) where
  good p hp := by
    unfold tListed readListed
    rcases (sim_nat l a b).good p hp with ⟨n, q, hq, h1, h2⟩ | ⟨h1, h2⟩
    · rw [h1, h2]
      exact (sim_times h n).good q hq
    · right
      rw [h1]
      exact ⟨rfl, bad_times h.bad _ _ h2⟩
  bad p := bad_times h.bad _ _ ((sim_nat l a b).bad p)
def rWord : Reader (List Nat) := readListed 1 8 (readNat 32 126)
theorem sim_word (l : List Int) : Sim l (tWord l) rWord := sim_listed (sim_nat l 32 126) 1 8
/-! ### words read loosely, then looked at -/
def inWord (u : List Nat) : Bool := u.all fun b => decide (32 ≤ b) && decide (b ≤ 126)
theorem times_strict : ∀ (n : Nat) (x : List Int), (readTimes (readNat 0 255) n x = none → readTimes (readNat 32 126) n x = none) ∧
    ∀ u r, readTimes (readNat 0 255) n x = some (u, r) → u.length = n ∧ (∀ b ∈ u, b ≤ 255) ∧ readTimes (readNat 32 126) n x = if inWord u = true then some (u, r) else none
  | 0, x => by
    refine ⟨fun h => (by cases h), fun u r h => ?_⟩
    have e : (([] : List Nat), x) = (u, r) := Option.some.inj h
    cases e
    exact ⟨rfl, by simp, rfl⟩
  | n + 1, [] => ⟨fun _ => rfl, fun u r h => by cases h⟩
  | n + 1, z :: x => by
    obtain ⟨ih1, ih2⟩ := times_strict n x
    have e1 : ∀ a b : Nat, readTimes (readNat a b) (n + 1) (z :: x) = if (a : Int) ≤ z ∧ z ≤ (b : Int) then (readTimes (readNat a b) n x).map (fun v => (z.toNat :: v.1, v.2)) else none := by
      intro a b
      show ((readNat a b (z :: x)).bind fun u => (readTimes (readNat a b) n u.2).map fun v => (u.1 :: v.1, v.2)) = _
      rw [readNat_cons]
      split <;> rfl
    rw [e1, e1]
    by_cases hc : ((0 : Nat) : Int) ≤ z ∧ z ≤ ((255 : Nat) : Int)
    · rw [if_pos hc]
      refine ⟨fun h => ?_, fun u r h => ?_⟩
      · have h' : readTimes (readNat 0 255) n x = none := by
          cases q : readTimes (readNat 0 255) n x with
          | none => rfl
          | some v => rw [q] at h; cases h
        rw [ih1 h']
        split <;> rfl
      · cases q : readTimes (readNat 0 255) n x with
        | none => rw [q] at h; cases h
        | some v =>
          obtain ⟨v1, v2⟩ := v
          rw [q] at h
          have e : (z.toNat :: v1, v2) = (u, r) := Option.some.inj h
          cases e
          obtain ⟨h1, h2, h3⟩ := ih2 v1 _ q
          refine ⟨by simp [h1], ?_, ?_⟩
          · intro b hb
            rcases List.mem_cons.mp hb with rfl | hb
            · omega
            · exact h2 b hb
          · rw [h3]
            have hin : inWord (z.toNat :: v1) = (decide (32 ≤ z ∧ z ≤ 126) && inWord v1) := by
              unfold inWord
              rw [List.all_cons]
              congr 1
              rw [Bool.eq_iff_iff]
              simp only [Bool.and_eq_true, decide_eq_true_eq]
              omega
            rw [hin]
            by_cases hz : 32 ≤ z ∧ z ≤ 126
            · rw [if_pos (show ((32 : Nat) : Int) ≤ z ∧ z ≤ ((126 : Nat) : Int) from hz), decide_eq_true hz, Bool.true_and]
              split <;> rfl
            · rw [if_neg (show ¬ (((32 : Nat) : Int) ≤ z ∧ z ≤ ((126 : Nat) : Int)) from hz), decide_eq_false hz, Bool.false_and]
              rfl
    · rw [if_neg hc]
      refine ⟨fun _ => ?_, fun u r h => by cases h⟩
      rw [if_neg fun q => hc (by omega)]
theorem word_strict (x : List Int) : (readBytes 8 x = none → rWord x = none) ∧
    ∀ u r, readBytes 8 x = some (u, r) → 1 ≤ u.length ∧ u.length ≤ 8 ∧ rWord x = if inWord u = true then some (u, r) else none := by
  unfold readBytes rWord readListed
  cases q : readNat 1 8 x with
  | none => exact ⟨fun _ => rfl, fun u r h => by cases h⟩
  | some v =>
    obtain ⟨n, y⟩ := v
    have hn : 1 ≤ n ∧ n ≤ 8 := by
      cases x with
      | nil => cases q
      | cons z x =>
        rw [readNat_cons] at q
        split at q
        · rename_i hc
          have e : (z.toNat, x) = (n, y) := Option.some.inj q
          cases e
          omega
        · cases q
    obtain ⟨h1, h2⟩ := times_strict n y
    refine ⟨h1, fun u r h => ?_⟩
    obtain ⟨g1, g2, g3⟩ := h2 u r h
    exact ⟨by omega, by omega, g3⟩
theorem isWord_in {u : List Nat} (h1 : 1 ≤ u.length) (h8 : u.length ≤ 8) : isWord u = inWord u := by
  unfold isWord WORD inWord
  rw [decide_eq_true h1, decide_eq_true h8]
  rfl
theorem cell_word_strict (x : List Int) : ((readBytes WORD x).bind fun u => if isWord u.1 then some (Cell.word u.1, u.2) else none) = (rWord x).map fun u => (Cell.word u.1, u.2) := by
  obtain ⟨h1, h2⟩ := word_strict x
  show ((readBytes 8 x).bind fun u => if isWord u.1 then some (Cell.word u.1, u.2) else none) = _
  cases q : readBytes 8 x with
  | none => rw [h1 q]; rfl
  | some v =>
    obtain ⟨u, r⟩ := v
    obtain ⟨g1, g2, g3⟩ := h2 u r q
    rw [g3]
    show (if isWord u = true then some (Cell.word u, r) else none) = _
    rw [isWord_in g1 g2]
    split <;> rfl
theorem readCell_cons (z : Int) (r : List Int) : readCell (z :: r) =
    if z = 0 then some (.empty, r) else if z = 1 then (match r with | y :: s => if isCell (.num y) then some (.num y, s) else none | [] => none)
    else if z = 2 then (rWord r).map (fun u => (Cell.word u.1, u.2)) else none := by
  by_cases h0 : z = 0
  · subst h0; rfl
  · rw [if_neg h0]
    by_cases h1 : z = 1
    · subst h1
      rw [if_pos rfl]
      cases r <;> rfl
    · rw [if_neg h1]
      by_cases h2 : z = 2
      · subst h2
        rw [if_pos rfl, ← cell_word_strict]
        rfl
      · rw [if_neg h2]
        unfold readCell
        split <;> simp_all
theorem isCell_num (y : Int) : isCell (.num y) = decide (-1000000 ≤ y ∧ y ≤ 1000000) := by
  show (decide (-NUMBER ≤ y) && decide (y ≤ NUMBER)) = _
  rw [Bool.eq_iff_iff, Bool.and_eq_true, decide_eq_true_eq, decide_eq_true_eq, decide_eq_true_eq]
  rfl
theorem sim_cell (l : List Int) : Sim l (tCell l) readCell where
  good p hp := by
    by_cases h : p < l.length
    · rw [drop_at h, readCell_cons]
      have hn : tNat l 0 2 (p, true) = if 0 ≤ jat l p ∧ jat l p ≤ 2 then ((jat l p).toNat, (p + 1, true)) else (0, (p, false)) := by
        unfold tNat tNum
        by_cases hc : 0 ≤ jat l p ∧ jat l p ≤ 2
        · rw [if_pos hc, if_pos (show true = true ∧ p < l.length ∧ ((0 : Nat) : Int) ≤ jat l p ∧ jat l p ≤ ((2 : Nat) : Int) from ⟨rfl, h, hc.1, hc.2⟩)]
        · rw [if_neg hc, if_neg (show ¬ (true = true ∧ p < l.length ∧ ((0 : Nat) : Int) ≤ jat l p ∧ jat l p ≤ ((2 : Nat) : Int)) from fun q => hc ⟨q.2.2.1, q.2.2.2⟩)]
          rfl
      unfold tCell
      rw [hn]
      by_cases h0 : jat l p = 0
      · left
        rw [if_pos h0, h0]
        exact ⟨.empty, p + 1, by omega, rfl, rfl⟩
      · rw [if_neg h0]
        by_cases h1 : jat l p = 1
        · rw [if_pos h1, h1]
          show (∃ a q, _ ∧ _ ∧ (Cell.num (tNum l (-1000000) 1000000 (p + 1, true)).1, (tNum l (-1000000) 1000000 (p + 1, true)).2) = _) ∨ (_ ∧ (tNum l (-1000000) 1000000 (p + 1, true)).2.2 = false)
          by_cases hq : p + 1 < l.length
          · rw [drop_at hq]
            dsimp only
            rw [isCell_num]
            unfold tNum
            by_cases hc : -1000000 ≤ jat l (p + 1) ∧ jat l (p + 1) ≤ 1000000
            · left
              rw [if_pos (decide_eq_true hc), if_pos ⟨rfl, hq, hc.1, hc.2⟩]
              exact ⟨_, p + 1 + 1, by omega, rfl, rfl⟩
            · right
              rw [decide_eq_false hc, if_neg (by decide), if_neg fun q => hc ⟨q.2.2.1, q.2.2.2⟩]
              exact ⟨rfl, rfl⟩
          · right
            have : l.drop (p + 1) = [] := List.drop_eq_nil_iff.mpr (by omega)
            rw [this]
            refine ⟨rfl, ?_⟩
            unfold tNum
            rw [if_neg fun q => hq q.2.1]
        · rw [if_neg h1]
          by_cases h2 : jat l p = 2
          · rw [if_pos h2, h2]
            show (∃ a q, _ ∧ _ ∧ (Cell.word (tWord l (p + 1, true)).1, (tWord l (p + 1, true)).2) = _) ∨ (_ ∧ (tWord l (p + 1, true)).2.2 = false)
            rcases (sim_word l).good (p + 1) (by omega) with ⟨a, q, hq, g1, g2⟩ | ⟨g1, g2⟩
            · left
              rw [g1, g2]
              exact ⟨.word a, q, hq, rfl, rfl⟩
            · right
              rw [g1]
              exact ⟨rfl, g2⟩
          · right
            rw [if_neg h2, if_neg (show ¬ (0 ≤ jat l p ∧ jat l p ≤ 2) by omega)]
            exact ⟨rfl, rfl⟩
    · right
      have : l.drop p = [] := List.drop_eq_nil_iff.mpr (by omega)
      rw [this]
      refine ⟨rfl, ?_⟩
      unfold tCell
      have hn : tNat l 0 2 (p, true) = (0, (p, false)) := by
        unfold tNat tNum
        rw [if_neg fun q => h q.2.1]
        rfl
      rw [hn, if_pos rfl]
  bad p := by
    have hn : tNat l 0 2 (p, false) = (0, (p, false)) := by
      unfold tNat tNum
      rw [if_neg fun q => by cases q.1]
      rfl
    unfold tCell
    rw [hn, if_pos rfl]
/-- THE LAW of a cell taken -/
theorem takenCell_is (l : List Int) : takenCell l = Vatdfa.cellOf l := by
  unfold takenCell Vatdfa.cellOf VatdfFlat.whole
  rcases (sim_cell l).good 0 (Nat.zero_le _) with ⟨a, q, hq, h1, h2⟩ | ⟨h1, h2⟩
  · rw [List.drop_zero] at h1
    rw [h1, h2]
    unfold tWhole
    dsimp only
    rw [Bool.true_and]
    by_cases e : q = l.length
    · rw [decide_eq_true e, if_pos rfl, e, List.drop_length]
    · rw [decide_eq_false e, if_neg (by decide)]
      have : l.drop q ≠ [] := fun z => e (by
        have := List.drop_eq_nil_iff.mp z
        omega)
      cases hd : l.drop q with
      | nil => exact absurd hd this
      | cons z r => rfl
  · rw [List.drop_zero] at h1
    rw [h1]
    unfold tWhole
    rw [h2, Bool.false_and, if_neg (by decide)]
end Tx
end

section
set_option autoImplicit false
set_option linter.unusedVariables false
/-! a table taken -/
namespace Tx
open VatdfBase VatdfFlat

theorem times_each {A : Type} {R : Reader A} {P : A → Prop} (h : ∀ y a r, R y = some (a, r) → P a) : ∀ (n : Nat) (x : List Int) (as : List A) (r : List Int), readTimes R n x = some (as, r) → as.length = n ∧ ∀ a ∈ as, P a
  | 0, x, as, r, e => by
    have e' : (([] : List A), x) = (as, r) := Option.some.inj e
    cases e'
    exact ⟨rfl, by simp⟩
  | n + 1, x, as, r, e => by
    have e' : ((R x).bind fun u => (readTimes R n u.2).map fun v => (u.1 :: v.1, v.2)) = some (as, r) := e
    cases q : R x with
    | none => rw [q] at e'; cases e'
    | some u =>
      obtain ⟨a, y⟩ := u
      rw [q] at e'
      have e2 : ((readTimes R n y).map fun v => (a :: v.1, v.2)) = some (as, r) := e'
      cases q2 : readTimes R n y with
      | none => rw [q2] at e2; cases e2
      | some v =>
        obtain ⟨bs, z⟩ := v
        rw [q2] at e2
        have e3 : (a :: bs, z) = (as, r) := Option.some.inj e2
        cases e3
        obtain ⟨h1, h2⟩ := times_each h n y bs _ q2
        refine ⟨by simp [h1], fun b hb => ?_⟩
        rcases List.mem_cons.mp hb with rfl | hb
        · exact h x _ y q
        · exact h2 b hb
theorem listed_count {A : Type} {R : Reader A} {a b : Nat} {x : List Int} {as : List A} {r : List Int} (h : readListed a b R x = some (as, r)) : ∃ n y, a ≤ n ∧ n ≤ b ∧ readTimes R n y = some (as, r) := by
  unfold readListed at h
  cases q : readNat a b x with
  | none => rw [q] at h; cases h
  | some v =>
    obtain ⟨n, y⟩ := v
    rw [q] at h
    refine ⟨n, y, ?_, ?_, h⟩ <;>
    · cases x with
      | nil => cases q
      | cons z x =>
        rw [readNat_cons] at q
        split at q
        · rename_i hc
          have e : (z.toNat, x) = (n, y) := Option.some.inj q
          cases e
          omega
        · cases q
theorem readCell_ok {x : List Int} {c : Cell} {r : List Int} (h : readCell x = some (c, r)) : isCell c = true := by
  cases x with
  | nil => cases h
  | cons z x =>
    rw [readCell_cons] at h
    split at h
    · cases h; rfl
    · split at h
      · cases x with
        | nil => cases h
        | cons y s =>
          dsimp only at h
          split at h
          · rename_i hc
            cases h
            exact hc
          · cases h
      · split at h
        · rw [← cell_word_strict] at h
          cases q : readBytes WORD x with
          | none => rw [q] at h; cases h
          | some u =>
            rw [q] at h
            have h' : (if isWord u.1 = true then some (Cell.word u.1, u.2) else none) = some (c, r) := h
            split at h'
            · rename_i hw
              cases h'
              exact hw
            · cases h'
        · cases h
theorem isName_in {u : List Nat} (h : isName u = true) : inWord u = true ∧ 1 ≤ u.length ∧ u.length ≤ 8 := by
  unfold isName NAME at h
  rw [Bool.and_eq_true, Bool.and_eq_true, decide_eq_true_eq] at h
  obtain ⟨h8, hh, ha⟩ := h
  refine ⟨?_, ?_, h8⟩
  · unfold inWord
    rw [List.all_eq_true] at ha ⊢
    intro b hb
    have := ha b hb
    unfold isSmall isDigit at this
    simp only [Bool.or_eq_true, Bool.and_eq_true, decide_eq_true_eq] at this ⊢
    omega
  · cases u with
    | nil => cases hh
    | cons a u => simp
theorem names_strict : ∀ (n : Nat) (x : List Int), (readTimes (readBytes 8) n x = none → readTimes rWord n x = none) ∧
    ∀ u r, readTimes (readBytes 8) n x = some (u, r) → readTimes rWord n x = if u.all inWord = true then some (u, r) else none
  | 0, x => by
    refine ⟨fun h => (by cases h), fun u r h => ?_⟩
    have e : (([] : List (List Nat)), x) = (u, r) := Option.some.inj h
    cases e
    rfl
  | n + 1, x => by
    obtain ⟨w1, w2⟩ := word_strict x
    have e1 : ∀ R : Reader (List Nat), readTimes R (n + 1) x = (R x).bind fun u => (readTimes R n u.2).map fun v => (u.1 :: v.1, v.2) := fun _ => rfl
    rw [e1, e1]
    cases q : readBytes 8 x with
    | none =>
      refine ⟨fun _ => by rw [w1 q]; rfl, fun u r h => by cases h⟩
    | some v =>
      obtain ⟨a, y⟩ := v
      obtain ⟨_, _, w3⟩ := w2 a y q
      obtain ⟨ih1, ih2⟩ := names_strict n y
      rw [w3]
      refine ⟨fun h => ?_, fun u r h => ?_⟩
      · have h' : readTimes (readBytes 8) n y = none := by
          cases q2 : readTimes (readBytes 8) n y with
          | none => rfl
          | some v =>
            have h2 : ((readTimes (readBytes 8) n y).map fun v => (a :: v.1, v.2)) = none := h
            rw [q2] at h2
            cases h2
        split
        · show (readTimes rWord n y).map _ = none
          rw [ih1 h']
          rfl
        · rfl
      · have h2 : ((readTimes (readBytes 8) n y).map fun v => (a :: v.1, v.2)) = some (u, r) := h
        cases q2 : readTimes (readBytes 8) n y with
        | none => rw [q2] at h2; cases h2
        | some v =>
          obtain ⟨bs, z⟩ := v
          rw [q2] at h2
          have e3 : (a :: bs, z) = (u, r) := Option.some.inj h2
          cases e3
          rw [List.all_cons]
          by_cases ha : inWord a = true
          · rw [if_pos ha, ha, Bool.true_and]
            show (readTimes rWord n y).map (fun v => (a :: v.1, v.2)) = _
            rw [ih2 bs _ q2]
            split <;> rfl
          · rw [if_neg ha]
            have : inWord a = false := by simpa using ha
            rw [this, Bool.false_and]
            rfl
theorem heads_strict (x : List Int) : (readListed 1 COLS (readBytes NAME) x = none → readListed 1 5 rWord x = none) ∧
    ∀ u r, readListed 1 COLS (readBytes NAME) x = some (u, r) → readListed 1 5 rWord x = if u.all inWord = true then some (u, r) else none := by
  show (readListed 1 5 (readBytes 8) x = none → _) ∧ ∀ u r, readListed 1 5 (readBytes 8) x = some (u, r) → _
  unfold readListed
  cases q : readNat 1 5 x with
  | none => exact ⟨fun _ => rfl, fun u r h => by cases h⟩
  | some v =>
    obtain ⟨n, y⟩ := v
    exact names_strict n y
theorem goodTo_all (ns : List (List Nat)) : namesGood ns = (ns.all isName && apart ns) := by
  unfold namesGood goodTo apart
  rw [Bool.eq_iff_iff, Bool.and_eq_true, List.all_eq_true, List.all_eq_true, List.all_eq_true]
  constructor
  · intro h
    constructor
    · intro n hn
      obtain ⟨k, hk⟩ := List.mem_iff_getElem?.mp hn
      have := h k (List.mem_range.mpr (List.getElem?_eq_some_iff.mp hk).1)
      rw [hk, Bool.and_eq_true] at this
      exact this.1
    · rintro ⟨n, k⟩ hp
      have hk := List.mem_zipIdx_iff_getElem?.mp hp
      have := h k (List.mem_range.mpr (List.getElem?_eq_some_iff.mp hk).1)
      rw [hk, Bool.and_eq_true] at this
      exact this.2
  · rintro ⟨h1, h2⟩ k hk
    have hk := List.mem_range.mp hk
    have e : ns[k]? = some ns[k] := List.getElem?_eq_getElem hk
    rw [e, Bool.and_eq_true]
    exact ⟨h1 _ (List.getElem_mem hk), h2 (ns[k], k) (List.mem_zipIdx_iff_getElem?.mpr e)⟩
theorem isTable_is {ns : List Name} {rows : List Row} (h1 : 1 ≤ ns.length) (h5 : ns.length ≤ 5) (h12 : rows.length ≤ 12) (hr : ∀ r ∈ rows, r.length = ns.length ∧ ∀ c ∈ r, isCell c = true) : isTable ⟨ns, rows⟩ = namesGood ns := by
  rw [goodTo_all]
  unfold isTable COLS ROWS
  have e : (rows.all fun r => r.length == ns.length && r.all isCell) = true := by
    rw [List.all_eq_true]
    intro r hm
    obtain ⟨g1, g2⟩ := hr r hm
    rw [Bool.and_eq_true, beq_iff_eq, List.all_eq_true]
    exact ⟨g1, g2⟩
  dsimp only
  rw [decide_eq_true h1, decide_eq_true h5, decide_eq_true h12, e]
  simp
theorem readTable_is (x : List Int) : readTable x = (readListed 1 COLS (readBytes NAME) x).bind fun n => (readListed 0 ROWS (readTimes readCell n.1.length) n.2).bind fun r => if isTable ⟨n.1, r.1⟩ then some (⟨n.1, r.1⟩, r.2) else none := rfl
theorem whole_is {A : Type} (a : Reader A) (x : List Int) : VatdfFlat.whole a x = (a x).bind fun v => if v.2.isEmpty = true then some v.1 else none := by
  unfold VatdfFlat.whole
  cases a x with
  | none => rfl
  | some v =>
    obtain ⟨u, r⟩ := v
    cases r <;> rfl
/-- THE LAW of a table taken -/
theorem takenTable_is (l : List Int) : takenTable l = tableOf l := by
  unfold takenTable tableOf
  rw [whole_is, readTable_is]
  obtain ⟨s1, s2⟩ := heads_strict l
  have sh := (sim_listed (sim_word l) 1 5).good 0 (Nat.zero_le _)
  rw [List.drop_zero] at sh
  cases q : readListed 1 COLS (readBytes NAME) l with
  | none =>
    rw [s1 q] at sh
    rcases sh with ⟨a, p, _, h, _⟩ | ⟨_, h⟩
    · cases h
    · have hw : (tRows l (tHead l (0, true)).1.length (tHead l (0, true)).2).2.2 = false := by
        have : (tHead l (0, true)).2.2 = false := h
        generalize (tHead l (0, true)) = hd at this ⊢
        obtain ⟨ns, p, b⟩ := hd
        change b = false at this
        subst this
        exact (sim_listed (sim_times (sim_cell l) ns.length) 0 12).bad p
      have : tWhole l (tRows l (tHead l (0, true)).1.length (tHead l (0, true)).2).2 = false := by unfold tWhole; rw [hw, Bool.false_and]
      rw [this, Bool.false_and, if_neg (by decide)]
      rfl
  | some v =>
    obtain ⟨ns, y⟩ := v
    rw [s2 ns y q] at sh
    obtain ⟨n0, y0, b1, b5, bt⟩ := listed_count q
    change n0 ≤ 5 at b5
    have hnl := (times_each (P := fun _ => True) (fun _ _ _ _ => trivial) n0 y0 ns y bt).1
    rw [Option.bind_some]
    dsimp only
    by_cases hin : ns.all inWord = true
    · rw [if_pos hin] at sh
      rcases sh with ⟨a, p, hp, h, h'⟩ | ⟨h, _⟩
      · have e : (ns, y) = (a, l.drop p) := Option.some.inj h
        cases e
        have hH : tHead l (0, true) = (ns, (p, true)) := h'
        rw [hH]
        dsimp only
        have sr := (sim_listed (sim_times (sim_cell l) ns.length) 0 12).good p hp
        rcases sr with ⟨rs, p2, hp2, g1, g2⟩ | ⟨g1, g2⟩
        · have hR : tRows l ns.length (p, true) = (rs, (p2, true)) := g2
          rw [hR]
          have g1' : readListed 0 ROWS (readTimes readCell ns.length) (l.drop p) = some (rs, l.drop p2) := g1
          rw [g1']
          obtain ⟨m0, z0, c0, c12, ct⟩ := listed_count g1
          obtain ⟨hrl, hre⟩ := times_each (P := fun (r : List Cell) => r.length = ns.length ∧ ∀ c ∈ r, isCell c = true) (fun y a r e => times_each (P := fun c => isCell c = true) (fun _ _ _ h => readCell_ok h) _ _ _ _ e) m0 z0 rs _ ct
          have hT : isTable ⟨ns, rs⟩ = namesGood ns := isTable_is (by omega) (by omega) (by omega) hre
          rw [Option.bind_some]
          dsimp only
          rw [hT]
          unfold tWhole
          dsimp only
          rw [Bool.true_and]
          by_cases e : p2 = l.length
          · rw [decide_eq_true e, Bool.true_and, e, List.drop_length]
            cases namesGood ns <;> rfl
          · rw [decide_eq_false e, Bool.false_and, if_neg (by decide)]
            have hne : l.drop p2 ≠ [] := fun z => e (by
              have := List.drop_eq_nil_iff.mp z
              omega)
            cases hd : l.drop p2 with
            | nil => exact absurd hd hne
            | cons z r => cases namesGood ns <;> rfl
        · have hR : (tRows l ns.length (p, true)).2.2 = false := g2
          have g1' : readListed 0 ROWS (readTimes readCell ns.length) (l.drop p) = none := g1
          rw [g1']
          have : tWhole l (tRows l ns.length (p, true)).2 = false := by unfold tWhole; rw [hR, Bool.false_and]
          rw [this, Bool.false_and, if_neg (by decide)]
          rfl
      · cases h
    · rw [if_neg hin] at sh
      rcases sh with ⟨a, p, _, h, _⟩ | ⟨_, h⟩
      · cases h
      · have hw : (tRows l (tHead l (0, true)).1.length (tHead l (0, true)).2).2.2 = false := by
          have : (tHead l (0, true)).2.2 = false := h
          generalize (tHead l (0, true)) = hd at this ⊢
          obtain ⟨ns, p, b⟩ := hd
          change b = false at this
          subst this
          exact (sim_listed (sim_times (sim_cell l) ns.length) 0 12).bad p
        have : tWhole l (tRows l (tHead l (0, true)).1.length (tHead l (0, true)).2).2 = false := by unfold tWhole; rw [hw, Bool.false_and]
        rw [this, Bool.false_and, if_neg (by decide)]
        have hno : ∀ rs, isTable ⟨ns, rs⟩ = false := by
          intro rs
          cases ht : isTable ⟨ns, rs⟩ with
          | false => rfl
          | true =>
            exfalso
            unfold isTable at ht
            simp only [Bool.and_eq_true] at ht
            have := ht.2.2.1
            rw [List.all_eq_true] at this
            apply hin
            rw [List.all_eq_true]
            intro u hu
            exact (isName_in (this u hu)).1
        cases readListed 0 ROWS (readTimes readCell ns.length) y with
        | none => rfl
        | some v =>
          rw [Option.bind_some, hno, if_neg (by decide)]
          rfl
theorem apart_nodup {ns : List Name} (h : apart ns = true) : ns.Nodup := by
  unfold apart at h
  rw [List.all_eq_true] at h
  rw [List.nodup_iff_pairwise_ne, List.pairwise_iff_getElem]
  intro i j hi hj hij e
  have hjx : ns[j]? = some ns[j] := List.getElem?_eq_getElem hj
  have := h (ns[j], j) (List.mem_zipIdx_iff_getElem?.mpr hjx)
  dsimp only at this
  rw [Bool.not_eq_true', ← Bool.not_eq_true, List.contains_iff_mem] at this
  apply this
  rw [List.mem_iff_getElem?]
  refine ⟨i, ?_⟩
  rw [List.getElem?_take_of_lt hij, List.getElem?_eq_getElem hi, e]
theorem isTable_wf {t : Table} (h : isTable t = true) : Wf t := by
  unfold isTable COLS ROWS at h
  simp only [Bool.and_eq_true, decide_eq_true_eq, List.all_eq_true, beq_iff_eq] at h
  obtain ⟨h1, h2, h3, h4, h5, h6⟩ := h
  exact ⟨h1, h2, h3, apart_nodup h4, h5, fun r hr => (h6 r hr).1, fun r hr => (h6 r hr).2⟩
theorem tableOf_wf {l : List Int} {t : Table} (h : tableOf l = some t) : Wf t := by
  unfold tableOf at h
  rw [whole_is, readTable_is] at h
  cases q : readListed 1 COLS (readBytes NAME) l with
  | none => rw [q] at h; cases h
  | some v =>
    obtain ⟨ns, y⟩ := v
    rw [q, Option.bind_some] at h
    dsimp only at h
    cases q2 : readListed 0 ROWS (readTimes readCell ns.length) y with
    | none => rw [q2] at h; cases h
    | some v =>
      obtain ⟨rs, z⟩ := v
      rw [q2, Option.bind_some] at h
      dsimp only at h
      by_cases ht : isTable ⟨ns, rs⟩ = true
      · rw [if_pos ht, Option.bind_some] at h
        dsimp only at h
        split at h
        · have : (⟨ns, rs⟩ : Table) = t := Option.some.inj h
          rw [← this]
          exact isTable_wf ht
        · cases h
      · rw [if_neg ht] at h
        cases h
end Tx
end

section
set_option Elab.async false
set_option linter.all false
set_option maxRecDepth 100000
set_option maxHeartbeats 4000000
namespace Tx
open PySem PySem.Spec PyProof.Rows L2
open Evl (Ex Ev EvL EvU EvT EvA EvO RV)

/-! ### data stay -/
mutual
theorem dp_ex {K : PySem.W.Frag} {H H' : Hp} (e : Ex H H') : ∀ (d : PyData) (v : V), Dp K H v d → Dp K H' v d
  | .none, _, h => by cases h; exact .non
  | .bool _, _, h => by cases h; exact .bl _
  | .int _, _, h => by cases h; exact .int _
  | .str _, _, h => by cases h; exact .str _
  | .list ds, _, h => by
    cases h with
    | lst h1 h2 => exact .lst (Evl.ex_l e h1) (dpAll_ex e ds _ h2)
  | .tuple ds, _, h => by
    cases h with
    | tup h1 h2 => exact .tup (Evl.ex_t e h1) (dpAll_ex e ds _ h2)
  | .dict _, _, h => by cases h
theorem dpAll_ex {K : PySem.W.Frag} {H H' : Hp} (e : Ex H H') : ∀ (ds : List PyData) (vs : List V), DpAll K H vs ds → DpAll K H' vs ds
  | [], _, h => by cases h; exact .nil
  | d :: ds, _, h => by
    cases h with
    | cons h1 h2 => exact .cons (dp_ex e d _ h1) (dpAll_ex e ds _ h2)
end
theorem Dp.ex {K : PySem.W.Frag} {H H' : Hp} {v : V} {d : PyData} (e : Ex H H') (h : Dp K H v d) : Dp K H' v d := dp_ex e d v h
theorem DpAll.ex {K : PySem.W.Frag} {H H' : Hp} {v : List V} {d : List PyData} (e : Ex H H') (h : DpAll K H v d) : DpAll K H' v d := dpAll_ex e d v h
section
variable {K : PySem.W.Frag} {H H' : Hp}
theorem DpAll.len : ∀ {vs : List V} {ds : List PyData}, DpAll K H vs ds → vs.length = ds.length
  | _, [], h => by cases h; rfl
  | _, d :: ds, h => by
    cases h with
    | cons h1 h2 => simp [DpAll.len h2]
theorem DpAll.get : ∀ {vs : List V} {ds : List PyData} {i : Nat} {d : PyData}, DpAll K H vs ds → ds[i]? = some d → ∃ v, vs[i]? = some v ∧ Dp K H v d
  | _, [], i, d, h, e => by simp at e
  | _, x :: ds, 0, d, h, e => by
    cases h with
    | cons h1 h2 =>
      simp at e
      subst e
      exact ⟨_, rfl, h1⟩
  | _, x :: ds, i + 1, d, h, e => by
    cases h with
    | cons h1 h2 =>
      obtain ⟨v, q1, q2⟩ := DpAll.get (i := i) h2 (by simpa using e)
      exact ⟨v, by simpa using q1, q2⟩
theorem DpAll.at : ∀ {vs : List V} {ds : List PyData} {i : Nat} {v : V}, DpAll K H vs ds → vs[i]? = some v → ∃ d, ds[i]? = some d ∧ Dp K H v d
  | _, [], i, d, h, e => by cases h; simp at e
  | _, x :: ds, 0, d, h, e => by
    cases h with
    | cons h1 h2 =>
      simp at e
      subst e
      exact ⟨_, rfl, h1⟩
  | _, x :: ds, i + 1, d, h, e => by
    cases h with
    | cons h1 h2 =>
      obtain ⟨v, q1, q2⟩ := DpAll.at (i := i) h2 (by simpa using e)
      exact ⟨v, by simpa using q1, q2⟩
theorem DpAll.app : ∀ {vs ws : List V} {ds es : List PyData}, DpAll K H vs ds → DpAll K H ws es → DpAll K H (vs ++ ws) (ds ++ es)
  | _, _, [], _, h, g => by cases h; exact g
  | _, _, d :: ds, _, h, g => by
    cases h with
    | cons h1 h2 => exact .cons h1 (DpAll.app h2 g)
theorem DpAll.one {v : V} {d : PyData} (h : Dp K H v d) : DpAll K H [v] [d] := .cons h .nil
theorem DpAll.take : ∀ {vs : List V} {ds : List PyData} (n : Nat), DpAll K H vs ds → DpAll K H (vs.take n) (ds.take n)
  | _, [], n, h => by cases h; simp; exact .nil
  | _, d :: ds, 0, h => by simp; exact .nil
  | _, d :: ds, n + 1, h => by
    cases h with
    | cons h1 h2 => exact .cons h1 (DpAll.take n h2)
theorem dpAll_ints : ∀ (ns : List Int), DpAll K H (ns.map V.int) (ns.map PyData.int)
  | [] => .nil
  | n :: ns => .cons (.int n) (dpAll_ints ns)
theorem ints_dpAll : ∀ (ns : List Int) (vs : List V), DpAll K H vs (ns.map PyData.int) → vs = ns.map V.int
  | [], vs, h => by
    have h' : DpAll K H vs [] := h
    cases h'; rfl
  | n :: ns, vs, h => by
    have h' : DpAll K H vs (.int n :: ns.map PyData.int) := h
    cases h' with
    | cons h1 h2 =>
      cases h1
      rw [ints_dpAll ns _ h2]
      rfl
theorem dp_listI {v : V} {ns : List Int} : Dp K H v (.list (ns.map .int)) ↔ ∃ a, v = .ref a ∧ SqL K H a (ns.map V.int) := by
  constructor
  · intro h
    cases h with
    | lst h1 h2 =>
      rw [ints_dpAll ns _ h2] at h1
      exact ⟨_, rfl, h1⟩
  · rintro ⟨a, rfl, h⟩
    exact .lst h (dpAll_ints ns)
theorem dp_tupI {v : V} {ns : List Int} : Dp K H v (.tuple (ns.map .int)) ↔ ∃ a, v = .ref a ∧ SqT K H a (ns.map V.int) := by
  constructor
  · intro h
    cases h with
    | tup h1 h2 =>
      rw [ints_dpAll ns _ h2] at h1
      exact ⟨_, rfl, h1⟩
  · rintro ⟨a, rfl, h⟩
    exact .tup h (dpAll_ints ns)
theorem SqL.ex {a : Addr} {xs : List V} (e : Ex H H') (h : SqL K H a xs) : SqL K H' a xs := Evl.ex_l e h
theorem SqT.ex {a : Addr} {xs : List V} (e : Ex H H') (h : SqT K H a xs) : SqT K H' a xs := Evl.ex_t e h
end
/-! ### the Spec's data as Python's -/
open VatdfBase (Cell Table)
abbrev TRow := VatdfBase.Row
abbrev nI (w : List Nat) : List Int := w.map fun (n : Nat) => (n : Int)
abbrev nV (w : List Nat) : List V := (nI w).map V.int
def bD (w : List Nat) : PyData := .tuple ((nI w).map .int)
def cI : Cell → List Int
  | .empty => [0]
  | .num z => [1, z]
  | .word w => 2 :: nI w
def cD (c : Cell) : PyData := .tuple ((cI c).map .int)
def rD (r : TRow) : PyData := .tuple (r.map cD)
section
variable {K : PySem.W.Frag} {H H' : Hp}
theorem dp_bD {v : V} {w : List Nat} : Dp K H v (bD w) ↔ ∃ a, v = .ref a ∧ SqT K H a (nV w) := dp_tupI
theorem dp_cD {v : V} {c : Cell} : Dp K H v (cD c) ↔ ∃ a, v = .ref a ∧ SqT K H a ((cI c).map V.int) := dp_tupI
theorem dp_rD {v : V} {r : TRow} : Dp K H v (rD r) ↔ ∃ a xs, v = .ref a ∧ SqT K H a xs ∧ DpAll K H xs (r.map cD) := by
  constructor
  · intro h
    cases h with
    | tup h1 h2 => exact ⟨_, _, rfl, h1, h2⟩
  · rintro ⟨a, xs, rfl, h1, h2⟩
    exact .tup h1 h2
theorem dp_list {v : V} {ds : List PyData} : Dp K H v (.list ds) ↔ ∃ a xs, v = .ref a ∧ SqL K H a xs ∧ DpAll K H xs ds := by
  constructor
  · intro h
    cases h with
    | lst h1 h2 => exact ⟨_, _, rfl, h1, h2⟩
  · rintro ⟨a, xs, rfl, h1, h2⟩
    exact .lst h1 h2
end
/-! ### == of them -/
theorem eqvAll_ints : ∀ (a b : List Int), PyData.eqvAll (a.map .int) (b.map .int) = decide (a = b)
  | [], [] => by simp [PyData.eqvAll]
  | [], _ :: _ => by simp [PyData.eqvAll]
  | _ :: _, [] => by simp [PyData.eqvAll]
  | x :: a, y :: b => by
    rw [List.map_cons, List.map_cons, PyData.eqvAll, eqvAll_ints a b]
    simp only [PyData.eqv]
    by_cases h1 : x = y <;> by_cases h2 : a = b <;> simp [h1, h2]
theorem eqvAll_by {α : Type} [DecidableEq α] {f : α → PyData} (hf : ∀ x y, PyData.eqv (f x) (f y) = decide (x = y)) : ∀ (a b : List α), PyData.eqvAll (a.map f) (b.map f) = decide (a = b)
  | [], [] => by simp [PyData.eqvAll]
  | [], _ :: _ => by simp [PyData.eqvAll]
  | _ :: _, [] => by simp [PyData.eqvAll]
  | x :: a, y :: b => by
    rw [List.map_cons, List.map_cons, PyData.eqvAll, eqvAll_by hf a b, hf]
    by_cases h1 : x = y <;> by_cases h2 : a = b <;> simp [h1, h2]
theorem nI_inj {a b : List Nat} (h : nI a = nI b) : a = b := by
  have := congrArg (List.map Int.toNat) h
  rw [List.map_map, List.map_map] at this
  simpa [Function.comp_def] using this
theorem cI_inj {a b : Cell} (h : cI a = cI b) : a = b := by
  cases a with
  | empty => cases b <;> simp [cI] at h ⊢
  | num z => cases b <;> simp [cI] at h ⊢; exact h
  | word w =>
    cases b with
    | empty => simp [cI] at h
    | num z => simp [cI] at h
    | word v =>
      have h' : (2 : Int) :: nI w = 2 :: nI v := h
      injection h' with _ h2
      rw [nI_inj h2]
theorem eqv_bD (a b : List Nat) : PyData.eqv (bD a) (bD b) = decide (a = b) := by
  unfold bD
  rw [PyData.eqv, eqvAll_ints]
  by_cases h : a = b
  · simp [h]
  · have : nI a ≠ nI b := fun q => h (nI_inj q)
    rw [decide_eq_false h, decide_eq_false this]
theorem eqv_cD (a b : Cell) : PyData.eqv (cD a) (cD b) = decide (a = b) := by
  unfold cD
  rw [PyData.eqv, eqvAll_ints]
  by_cases h : a = b
  · simp [h]
  · have : cI a ≠ cI b := fun q => h (cI_inj q)
    rw [decide_eq_false h, decide_eq_false this]
theorem eqv_rD (a b : TRow) : PyData.eqv (rD a) (rD b) = decide (a = b) := by
  unfold rD
  rw [PyData.eqv, eqvAll_by eqv_cD]
theorem eqv_list {α : Type} [DecidableEq α] {f : α → PyData} (hf : ∀ x y, PyData.eqv (f x) (f y) = decide (x = y)) (a b : List α) : PyData.eqv (.list (a.map f)) (.list (b.map f)) = decide (a = b) := by
  rw [PyData.eqv, eqvAll_by hf]
theorem eqv_tupI (a b : List Int) : PyData.eqv (.tuple (a.map .int)) (.tuple (b.map .int)) = decide (a = b) := by
  rw [PyData.eqv, eqvAll_ints]
end Tx
end

section
set_option Elab.async false
set_option linter.all false
set_option maxRecDepth 100000
set_option maxHeartbeats 4000000
namespace Tx
open PySem PySem.Spec PyProof.Rows L2
open Evl (Ex Ev EvL EvU EvT EvA EvO RV)
open VatdfBase (Cell Table)

/-! ### shaped -/
theorem lay_ints : ∀ ns : List Int, PyData.canLayAll0 (ns.map .int) = true
  | [] => by simp [PyData.canLayAll0]
  | n :: ns => by
    show PyData.canLayAll0 (.int n :: ns.map .int) = true
    rw [PyData.canLayAll0, lay_ints ns]
    simp [PyData.canLay0]
theorem depth_ints : ∀ ns : List Int, PyData.depthAll (ns.map .int) = 0
  | [] => by simp [PyData.depthAll]
  | n :: ns => by
    show PyData.depthAll (.int n :: ns.map .int) = 0
    rw [PyData.depthAll, depth_ints ns]
    simp [PyData.depth]
theorem lay_by {α : Type} {f : α → PyData} (hf : ∀ x, (f x).canLay0 = true) : ∀ l : List α, PyData.canLayAll0 (l.map f) = true
  | [] => by simp [PyData.canLayAll0]
  | n :: ns => by
    show PyData.canLayAll0 (f n :: ns.map f) = true
    rw [PyData.canLayAll0, lay_by hf ns]
    simp [hf]
theorem depth_by {α : Type} {f : α → PyData} {k : Nat} (hf : ∀ x, (f x).depth ≤ k) : ∀ l : List α, PyData.depthAll (l.map f) ≤ k
  | [] => by simp [PyData.depthAll]
  | n :: ns => by
    show PyData.depthAll (f n :: ns.map f) ≤ k
    rw [PyData.depthAll]
    exact Nat.max_le.mpr ⟨hf n, depth_by hf ns⟩
theorem lay_tupI (ns : List Int) : (PyData.tuple (ns.map .int)).canLay0 = true := by
  rw [PyData.canLay0]; exact lay_ints ns
theorem depth_tupI (ns : List Int) : (PyData.tuple (ns.map .int)).depth ≤ 1 := by
  rw [PyData.depth, depth_ints]; decide
theorem lay_bD (w : List Nat) : (bD w).canLay0 = true := lay_tupI _
theorem depth_bD (w : List Nat) : (bD w).depth ≤ 1 := depth_tupI _
theorem lay_cD (c : Cell) : (cD c).canLay0 = true := lay_tupI _
theorem depth_cD (c : Cell) : (cD c).depth ≤ 1 := depth_tupI _
theorem lay_rD (r : TRow) : (rD r).canLay0 = true := by
  unfold rD; rw [PyData.canLay0]; exact lay_by lay_cD r
theorem depth_rD (r : TRow) : (rD r).depth ≤ 2 := by
  unfold rD; rw [PyData.depth]
  have := depth_by depth_cD r
  omega
theorem shaped_of {d : PyData} (h1 : d.canLay0 = true) {k : Nat} (h2 : d.depth ≤ k) (hk : k ≤ 64) : SeqAt.shaped d = true := by
  unfold SeqAt.shaped
  rw [h1, Bool.true_and]
  exact decide_eq_true (Nat.le_trans h2 hk)
theorem shaped_tupI (ns : List Int) : SeqAt.shaped (.tuple (ns.map .int)) = true := shaped_of (lay_tupI ns) (depth_tupI ns) (by decide)
theorem shaped_bD (w : List Nat) : SeqAt.shaped (bD w) = true := shaped_tupI _
theorem shaped_cD (c : Cell) : SeqAt.shaped (cD c) = true := shaped_tupI _
theorem shaped_rD (r : TRow) : SeqAt.shaped (rD r) = true := shaped_of (lay_rD r) (depth_rD r) (by decide)
theorem shaped_list {α : Type} {f : α → PyData} {k : Nat} (h1 : ∀ x, (f x).canLay0 = true) (h2 : ∀ x, (f x).depth ≤ k) (hk : k ≤ 60) (l : List α) : SeqAt.shaped (.list (l.map f)) = true := by
  refine shaped_of (k := k + 1) ?_ ?_ (by omega)
  · rw [PyData.canLay0]; exact lay_by h1 l
  · rw [PyData.depth]
    have := depth_by h2 l
    omega

/-! ### what evaluates to what -/
def EvP (te : TE) (σ : L2.St) (H : Hp) (P : V → Hp → Prop) : Prop := ∀ H1, Ex H H1 → ∀ Q : VK, (∀ v H2, Ex H1 H2 → P v H2 → Q v H2) → te σ H1 Q
/-- a new object -/
def EvF (te : TE) (σ : L2.St) (H : Hp) (P : Addr → Hp → Prop) : Prop := ∀ H1, Ex H H1 → ∀ Q : VK, (∀ p H2, H1 p = none → Ex H1 H2 → P p H2 → Q (.ref p) H2) → te σ H1 Q
def EvAP (ta : TA) (σ : L2.St) (H : Hp) (P : List V → Hp → Prop) : Prop := ∀ H1, Ex H H1 → ∀ Q : List V → Hp → Prop, (∀ vs H2, Ex H1 H2 → P vs H2 → Q vs H2) → ta σ H1 Q
def Mo (P : V → Hp → Prop) : Prop := ∀ v H H', Ex H H' → P v H → P v H'
theorem mo_eq {w : V} : Mo (fun v _ => v = w) := fun _ _ _ _ h => h
theorem mo_dp {K : PySem.W.Frag} {d : PyData} : Mo (fun v H => Dp K H v d) := fun _ _ _ e h => Dp.ex e h
theorem mo_lst {xs : List V} : Mo (fun v H => ∃ p, v = .ref p ∧ H p = some (.lst xs)) := fun _ _ _ e ⟨p, h1, h2⟩ => ⟨p, h1, e p _ h2⟩
section
variable {K : PySem.W.Frag} {σ : L2.St} {H H' : Hp} {ta tb te tx : TE} {t u : TT} {x y z v : V} {r : R2} {P P' R : V → Hp → Prop}
theorem EvP.mono (e : Ex H H') (h : EvP te σ H P) : EvP te σ H' P := fun H1 a Q q => h H1 (e.trans a) Q q
theorem EvF.mono {P : Addr → Hp → Prop} (e : Ex H H') (h : EvF te σ H P) : EvF te σ H' P := fun H1 a Q q => h H1 (e.trans a) Q q
theorem EvP.imp (h : EvP te σ H P) (k : ∀ v H2, Ex H H2 → P v H2 → P' v H2) : EvP te σ H P' := fun H1 a Q q => h H1 a Q fun v H2 e p => q v H2 e (k v H2 (a.trans e) p)
theorem EvF.imp {P P' : Addr → Hp → Prop} (h : EvF te σ H P) (k : ∀ p H2, Ex H H2 → P p H2 → P' p H2) : EvF te σ H P' := fun H1 a Q q => h H1 a Q fun v H2 n e p => q v H2 n e (k v H2 (a.trans e) p)
theorem evp_of (h : Ev te σ H v) : EvP te σ H (fun x _ => x = v) := fun H1 e Q q => h H1 e Q fun H2 e2 => q v H2 e2 rfl
theorem ev_of (h : EvP te σ H (fun x _ => x = v)) : Ev te σ H v := fun H1 e Q q => h H1 e Q fun x H2 e2 hx => by subst hx; exact q H2 e2
theorem evp_F {P : Addr → Hp → Prop} (h : EvF te σ H P) : EvP te σ H (fun x H2 => ∃ p, x = .ref p ∧ P p H2) := fun H1 e Q q => h H1 e Q fun p H2 _ e2 hp => q _ H2 e2 ⟨p, rfl, hp⟩
theorem evf_L {xs : List V} (h : EvL te σ H xs) : EvF te σ H (fun p H2 => H2 p = some (.lst xs)) := h
theorem evl_F {xs : List V} (h : EvF te σ H (fun p H2 => H2 p = some (.lst xs))) : EvL te σ H xs := h
theorem evf_U {xs : List V} (h : EvU te σ H xs) : EvF te σ H (fun p H2 => H2 p = some (.tup xs)) := h
/-- a value known by data -/
theorem evp_dp {d : PyData} (h : Ev te σ H v) (hd : Dp K H v d) : EvP te σ H (fun x H2 => Dp K H2 x d) := fun H1 e Q q => h H1 e Q fun H2 e2 => q v H2 e2 (Dp.ex (e.trans e2) hd)
theorem ev_dpI {i : Int} (h : EvP te σ H (fun x H2 => Dp K H2 x (.int i))) : Ev te σ H (.int i) := ev_of (h.imp fun v H2 _ d => by cases d; rfl)
theorem ev_dpB {b : Bool} (h : EvP te σ H (fun x H2 => Dp K H2 x (.bool b))) : Ev te σ H (.bl b) := ev_of (h.imp fun v H2 _ d => by cases d; rfl)

/-- one operator, any operands -/
def RP (r : R2) (x y : V) (H : Hp) (R : V → Hp → Prop) : Prop := ∀ H1, Ex H H1 → ∀ Q : VK, (∀ v H2, Ex H1 H2 → R v H2 → Q v H2) → r x y H1 Q
def RF (r : R2) (x y : V) (H : Hp) (R : Addr → Hp → Prop) : Prop := ∀ H1, Ex H H1 → ∀ Q : VK, (∀ v H2, H1 v = none → Ex H1 H2 → R v H2 → Q (.ref v) H2) → r x y H1 Q
theorem evp_op (ha : EvP ta σ H P) (m : Mo P) (hb : EvP tb σ H P') (hr : ∀ x y H1, Ex H H1 → P x H1 → P' y H1 → RP r x y H1 R) : EvP (tOp r ta tb) σ H R := fun H1 e Q q =>
  ha H1 e _ fun x H2 e2 p => hb H2 (e.trans e2) _ fun y H3 e3 p' => hr x y H3 ((e.trans e2).trans e3) (m _ _ _ e3 p) p' H3 (Ex.refl H3) Q fun v H4 e4 => q v H4 ((e2.trans e3).trans e4)
theorem evf_op {R : Addr → Hp → Prop} (ha : EvP ta σ H P) (m : Mo P) (hb : EvP tb σ H P') (hr : ∀ x y H1, Ex H H1 → P x H1 → P' y H1 → RF r x y H1 R) : EvF (tOp r ta tb) σ H R := fun H1 e Q q =>
  ha H1 e _ fun x H2 e2 p => hb H2 (e.trans e2) _ fun y H3 e3 p' => hr x y H3 ((e.trans e2).trans e3) (m _ _ _ e3 p) p' H3 (Ex.refl H3) Q fun v H4 n e4 =>
    q v H4 (Evl.fresh_back (e2.trans e3) n) ((e2.trans e3).trans e4)
theorem ev_opP (ha : EvP ta σ H P) (m : Mo P) (hb : EvP tb σ H P') (hr : ∀ x y H1, Ex H H1 → P x H1 → P' y H1 → RV r x y H1 z) : Ev (tOp r ta tb) σ H z := fun H1 e Q q =>
  ha H1 e _ fun x H2 e2 p => hb H2 (e.trans e2) _ fun y H3 e3 p' => hr x y H3 ((e.trans e2).trans e3) (m _ _ _ e3 p) p' H3 (Ex.refl H3) Q fun H4 e4 => q H4 ((e2.trans e3).trans e4)
/-! operators by values -/
theorem rv_eqD {d e : PyData} {b : Bool} (hx : Dp K H x d) (hy : Dp K H y e) (s1 : SeqAt.shaped d = true) (s2 : SeqAt.shaped e = true) (hb : PyData.eqv d e = b) : RV (rEqD K) x y H (.bl b) := fun H1 a Q q => ⟨d, e, Dp.ex a hx, Dp.ex a hy, s1, s2, by rw [hb]; exact q H1 (Ex.refl H1)⟩
theorem rv_neD {d e : PyData} {b : Bool} (hx : Dp K H x d) (hy : Dp K H y e) (s1 : SeqAt.shaped d = true) (s2 : SeqAt.shaped e = true) (hb : PyData.eqv d e = b) : RV (rNeD K) x y H (.bl (!b)) := fun H1 a Q q => ⟨d, e, Dp.ex a hx, Dp.ex a hy, s1, s2, by rw [hb]; exact q H1 (Ex.refl H1)⟩
theorem rv_inD {d : PyData} {ds : List PyData} {b : Bool} (hx : Dp K H x d) (hy : Dp K H y (.list ds)) (s1 : SeqAt.shaped d = true) (s2 : SeqAt.shaped (.list ds) = true) (hb : (ds.any fun z => PyData.eqv z d) = b) : RV (rInD K) x y H (.bl b) := fun H1 a Q q => ⟨d, ds, Dp.ex a hx, Dp.ex a hy, s1, s2, by rw [hb]; exact q H1 (Ex.refl H1)⟩
theorem rv_niD {d : PyData} {ds : List PyData} {b : Bool} (hx : Dp K H x d) (hy : Dp K H y (.list ds)) (s1 : SeqAt.shaped d = true) (s2 : SeqAt.shaped (.list ds) = true) (hb : (ds.any fun z => PyData.eqv z d) = b) : RV (rNotInD K) x y H (.bl (!b)) := fun H1 a Q q => ⟨d, ds, Dp.ex a hx, Dp.ex a hy, s1, s2, by rw [hb]; exact q H1 (Ex.refl H1)⟩
end
end Tx
end

section
set_option Elab.async false
set_option linter.all false
set_option maxRecDepth 100000
set_option maxHeartbeats 4000000
namespace Tx
open PySem PySem.Spec PyProof.Rows L2
open Evl (Ex Ev EvL EvU EvT EvA EvO RV)
open VatdfBase (Cell Table)

/-! ### promises that change nothing: a known value, a value by what is known of it, a new object -/
def spV {α : Type} (pre : α → List V → Hp → Prop) (val : α → V) : Sp := fun vs H Q _ => ∃ x, pre x vs H ∧ ∀ H', Ex H H' → Q (val x) H'
def spP {α : Type} (pre : α → List V → Hp → Prop) (post : α → V → Hp → Prop) : Sp := fun vs H Q _ => ∃ x, pre x vs H ∧ ∀ v H', Ex H H' → post x v H' → Q v H'
def spN {α : Type} (pre : α → List V → Hp → Prop) (post : α → Addr → Hp → Prop) : Sp := fun vs H Q _ => ∃ x, pre x vs H ∧ ∀ p H', H p = none → Ex H H' → post x p H' → Q (.ref p) H'
section
variable {α : Type} {K : PySem.W.Frag} {σ : L2.St} {H H' : Hp} {ta : TA} {te tx : TE} {pre : α → List V → Hp → Prop} {val : α → V} {post : α → V → Hp → Prop} {postN : α → Addr → Hp → Prop} {P : V → Hp → Prop} {v : V} {vs : List V} {E : XK}
theorem eap_nil : EvAP tNil σ H (fun vs _ => vs = []) := fun H1 _ Q q => q [] H1 (Ex.refl H1) rfl
theorem eap_of (h : EvA ta σ H vs) : EvAP ta σ H (fun x _ => x = vs) := fun H1 e Q q => h H1 e Q fun H2 e2 => q vs H2 e2 rfl
theorem eap_one (h : EvP te σ H P) : EvAP (tCons te tNil) σ H (fun vs H2 => ∃ v, vs = [v] ∧ P v H2) := fun H1 e Q q => h H1 e _ fun v H2 e2 p => q [v] H2 e2 ⟨v, rfl, p⟩
theorem eap_two {P' : V → Hp → Prop} (h : EvP te σ H P) (m : Mo P) (h' : EvP tx σ H P') : EvAP (tCons te (tCons tx tNil)) σ H (fun vs H2 => ∃ v w, vs = [v, w] ∧ P v H2 ∧ P' w H2) := fun H1 e Q q =>
  h H1 e _ fun v H2 e2 p => h' H2 (e.trans e2) _ fun w H3 e3 p' => q [v, w] H3 (e2.trans e3) ⟨v, w, rfl, m _ _ _ e3 p, p'⟩
theorem ev_callV (x : α) (ha : EvA ta σ H vs) (hp : ∀ H1, Ex H H1 → pre x vs H1) : Ev (tCall (spV pre val) [] E ta) σ H (val x) := fun H1 e Q q =>
  ha H1 e _ fun H2 e2 => ⟨x, by rw [List.append_nil]; exact hp H2 (e.trans e2), fun H3 e3 => q H3 (e2.trans e3)⟩
theorem ev_callVP {PA : List V → Hp → Prop} (x : α) (ha : EvAP ta σ H PA) (hp : ∀ vs H1, Ex H H1 → PA vs H1 → pre x vs H1) : Ev (tCall (spV pre val) [] E ta) σ H (val x) := fun H1 e Q q =>
  ha H1 e _ fun vs H2 e2 p => ⟨x, by rw [List.append_nil]; exact hp vs H2 (e.trans e2) p, fun H3 e3 => q H3 (e2.trans e3)⟩
theorem evp_callP (x : α) (ha : EvA ta σ H vs) (hp : ∀ H1, Ex H H1 → pre x vs H1) : EvP (tCall (spP pre post) [] E ta) σ H (post x) := fun H1 e Q q =>
  ha H1 e _ fun H2 e2 => ⟨x, by rw [List.append_nil]; exact hp H2 (e.trans e2), fun v H3 e3 p => q v H3 (e2.trans e3) p⟩
theorem evp_callPP {PA : List V → Hp → Prop} (x : α) (ha : EvAP ta σ H PA) (hp : ∀ vs H1, Ex H H1 → PA vs H1 → pre x vs H1) : EvP (tCall (spP pre post) [] E ta) σ H (post x) := fun H1 e Q q =>
  ha H1 e _ fun vs H2 e2 p => ⟨x, by rw [List.append_nil]; exact hp vs H2 (e.trans e2) p, fun v H3 e3 p => q v H3 (e2.trans e3) p⟩
theorem evf_callN (x : α) (ha : EvA ta σ H vs) (hp : ∀ H1, Ex H H1 → pre x vs H1) : EvF (tCall (spN pre postN) [] E ta) σ H (postN x) := fun H1 e Q q =>
  ha H1 e _ fun H2 e2 => ⟨x, by rw [List.append_nil]; exact hp H2 (e.trans e2), fun v H3 n e3 p => q v H3 (Evl.fresh_back e2 n) (e2.trans e3) p⟩
theorem evf_callNP {PA : List V → Hp → Prop} (x : α) (ha : EvAP ta σ H PA) (hp : ∀ vs H1, Ex H H1 → PA vs H1 → pre x vs H1) : EvF (tCall (spN pre postN) [] E ta) σ H (postN x) := fun H1 e Q q =>
  ha H1 e _ fun vs H2 e2 p => ⟨x, by rw [List.append_nil]; exact hp vs H2 (e.trans e2) p, fun v H3 n e3 p => q v H3 (Evl.fresh_back e2 n) (e2.trans e3) p⟩
/-! ### statements -/
variable {D : Ends} {tz : TS} {F : Addr → Hp → Prop}
theorem s_retP (h : EvP te σ H P) (k : ∀ v H1, Ex H H1 → P v H1 → D.rt v H1) : tRet te D σ H := h H (Ex.refl H) _ k
theorem s_retF (h : EvF te σ H F) (k : ∀ p H1, H p = none → Ex H H1 → F p H1 → D.rt (.ref p) H1) : tRet te D σ H := h H (Ex.refl H) _ k
theorem s_asgP {i : Nat} (h : EvP te σ H P) (k : ∀ v H1, Ex H H1 → P v H1 → D.nx (σ.set i (some v)) H1) : tAsg te (gName i) D σ H := h H (Ex.refl H) _ k
theorem s_asgF {i : Nat} (h : EvF te σ H F) (k : ∀ p H1, H p = none → Ex H H1 → F p H1 → D.nx (σ.set i (some (.ref p))) H1) : tAsg te (gName i) D σ H := h H (Ex.refl H) _ k
theorem q_asgP {i : Nat} (h : EvP te σ H P) (k : ∀ v H1, Ex H H1 → P v H1 → tz D (σ.set i (some v)) H1) : tSeq (tAsg te (gName i)) tz D σ H := h H (Ex.refl H) _ k
theorem q_asgF {i : Nat} (h : EvF te σ H F) (k : ∀ p H1, H p = none → Ex H H1 → F p H1 → tz D (σ.set i (some (.ref p))) H1) : tSeq (tAsg te (gName i)) tz D σ H := h H (Ex.refl H) _ k
end
/-! ### a def of the program that is called by its name -/
structure DefAt (K : PySem.W.Frag) (mg : Str → Option Value) (x : Str) (st : Stmt) (ps : List Str) : Prop where
  ex : ∃ f fd, Fun K x x st f fd ∧ mg x = some (.ref f) ∧ Binds K fd ps []
structure Fn (P : Program) (w : World) (K : PySem.W.Frag) (mg : Str → Option Value) (base : Heap) (x : Str) (k : Nat) (ps : List Str) (sp : Sp) : Prop where
  ex : ∃ f fd, FnOk P w K mg base CX0 k f fd ps sp ∧ mg x = some (.ref f) ∧ PySem.W.keepIn K (.ref f) = true ∧ Binds K fd ps []
section
variable {P : Program} {w : World} {K : PySem.W.Frag} {mg : Str → Option Value} {base : Heap} {x : Str} {st : Stmt} {N ps : List Str} {k : Nat}
/-- THE RULE for a def -/
theorem Fn.mk' {sp : Sp} (D : DefAt K mg x st ps) (S : FnScope N ps (defScope st)) (len : ∀ vs H Q E, sp vs H Q E → vs.length = ps.length)
    (body : ∀ (cdv : Value) (f : Addr) (A : Around) (outer : List Env) (s : Shared) (H : Hp) (E : XK), Room k (A.deeper (envOfC x (defScope st) s.heap.objs.size f cdv)) →
      ∃ t, PSs (cxOf CX0 P w K mg base N x (defScope st) f cdv A outer s H E).nox (defBody st) t ∧ ∀ vs Q, sp vs H Q E → t { nx := fun _ H' => Q .non H', rt := Q } (start N vs) H) : Fn P w K mg base x (k + 1) ps sp := by
  obtain ⟨f, fd, F, hm, hb⟩ := D.ex
  refine ⟨f, fd, F.ok S len fun cdv A outer s H vs Q E hr h => ?_, hm, F.kp, hb⟩
  obtain ⟨t, h1, h2⟩ := body cdv f A outer s H E hr
  exact ⟨t, h1, h2 vs Q h⟩
theorem Fn.mono {j : Nat} {sp : Sp} (F : Fn P w K mg base x j ps sp) (h : j ≤ k) : Fn P w K mg base x k ps sp := by
  obtain ⟨f, fd, a, b⟩ := F.ex
  exact ⟨f, fd, a.mono h, b⟩
theorem Fn.imp {sp sp' : Sp} (F : Fn P w K mg base x k ps sp) (h : ∀ vs H Q E, sp' vs H Q E → sp vs H Q E) : Fn P w K mg base x k ps sp' := by
  obtain ⟨f, fd, a, b⟩ := F.ex
  exact ⟨f, fd, a.imp h, b⟩
end
section
variable {X : Cx} {x : Str} {ps : List Str} {k : Nat} {sp : Sp} {e : Expr} {es : List Expr} {p pos : Pos} {t : TA}
theorem pe_fn (F : Fn X.prog X.w X.K X.mg X.base x k ps sp) (hr : Room k X.A) (ha : PA X (e :: es) t) (hg : Gl X x := by rfl) (hdb : (x == ("__debug__" : Str)) = false := by decide)
    (he : starEach (e :: es) X.env = (false, eval e X.env) :: starEach es X.env := by rfl) (hpl : (backTo pos (starEach es X.env)).any (·.1) = false := by rfl) : PE X (.Call (.Name x p) (e :: es) [] pos) (tCall sp [] E0 t) := by
  obtain ⟨f, fd, F, hm, hk, hb⟩ := F.ex
  exact pe_call F hr hg hm hk hb .nil pass0 ha hdb he hpl
theorem pe_gi {i : Int} (h : ∃ u, X.mg x = some (.int i u)) (hg : Gl X x := by rfl) (hd : (x == ("__debug__" : Str)) = false := by decide) : PE X (.Name x pos) (tC (.int i)) := by
  obtain ⟨u, h⟩ := h
  exact pe_glob hg h ⟨u, rfl⟩ hd
theorem pe_gr {a : Addr} (h : X.mg x = some (.ref a)) (hg : Gl X x := by rfl) (hd : (x == ("__debug__" : Str)) = false := by decide) : PE X (.Name x pos) (tC (.ref a)) := pe_glob hg h rfl hd
end
end Tx
end

section
set_option Elab.async false
set_option linter.all false
set_option maxRecDepth 100000
set_option maxHeartbeats 4000000
namespace Tx
open PySem PySem.Spec PyProof.Rows L2
open Evl (Ex Ev EvL EvU EvT EvA EvO RV)

/-! ### sorted(xs) of data, any depth, one shape: the items as they stand for bs -/
def rSortedD {β : Type} (K : PySem.W.Frag) (enc : β → PyData) (P : List β → Prop) : List V → Hp → VK → Prop := fun vs H Q => ∃ (a : Addr) (xs : List V) (bs : List β), vs = [V.ref a] ∧ SqL K H a xs ∧ DpAll K H xs (bs.map enc) ∧ P bs ∧
  ∀ (ys : List V) (p : Addr), H p = none → DpAll K H ys ((bs.mergeSort (PySem.W.dataLe false enc)).map enc) → Q (.ref p) (upd H p (.lst ys))
section
variable {X : Cx} {β : Type}
theorem each_of_vals {K : PySem.W.Frag} {H : Hp} {enc : β → PyData} : ∀ {xs : List V} {us : List Value} {bs : List β}, Vals xs us → DpAll K H xs (bs.map enc) → PySem.W.EachIs (fun v b => ∃ x, RelV x v ∧ Dp K H x (enc b)) us bs
  | _, _, [], .nil, h => .nil
  | _, _, [], .cons r t, h => by
    have h' : DpAll K H (_ :: _) [] := h
    cases h'
  | _, _, b :: bs, .nil, h => by
    have h' : DpAll K H [] (enc b :: bs.map enc) := h
    cases h'
  | _, _, b :: bs, .cons r t, h => by
    have h' : DpAll K H (_ :: _) (enc b :: bs.map enc) := h
    cases h' with
    | cons h1 h2 => exact .cons ⟨_, r, h1⟩ (each_of_vals t h2)
theorem vals_of_each {K : PySem.W.Frag} {H : Hp} {enc : β → PyData} : ∀ {us : List Value} {bs : List β}, PySem.W.EachIs (fun v b => ∃ x, RelV x v ∧ Dp K H x (enc b)) us bs → ∃ xs, Vals xs us ∧ DpAll K H xs (bs.map enc)
  | _, _, .nil => ⟨[], .nil, .nil⟩
  | _, _, .cons ⟨x, r, h⟩ t => by
    obtain ⟨xs, h1, h2⟩ := vals_of_each t
    exact ⟨x :: xs, .cons r h1, .cons h h2⟩
theorem cr_sortedD {enc : β → PyData} {P : List β → Prop} {k : Nat} (hr : Room k X.A) (hP : ∀ bs, P bs → PySem.W.AllAlike (bs.map enc) ∧ PySem.W.Sortable (bs.map enc)) (hd : ∀ b, (enc b).depth ≤ 60) : CallR X (.builtin "sorted") (rSortedD X.K enc P) := by
  intro pins s σ H vs us Q I r h
  obtain ⟨a, xs, bs, rfl, hs, hx, hb, q⟩ := h
  obtain ⟨its, rv, hl, hz⟩ := I.list hs
  rw [Vals.ref1 r]
  obtain ⟨h1, h2⟩ := hP bs hb
  have hlen : bs.length ≤ sizeLine := by
    have := DpAll.len hx
    rw [List.length_map] at this
    omega
  have hu := hr.units
  refine PySem.W.sorted_data (R := fun v b => ∃ x, RelV x v ∧ Dp X.K H x (enc b)) hl.isList (each_of_vals rv hx) ((each_of_vals rv hx).mono fun v b ⟨x, r1, d1⟩ => Dp.reads I _ x v d1 r1) h1 h2 hlen (fun b _ => by have := hd b; omega) fun out ho ho2 => ?_
  obtain ⟨ys, y1, y2⟩ := vals_of_each ho2
  obtain ⟨ep, he'⟩ := PyProof.Rows.sortedAll_at s.heap its out.toArray
  refine ⟨.ref _, upd H (s.heap.objs.size + 1) (.lst ys), I.laid (t' := s.toks) (fun _ _ => PyProof.Rows.sortedAll_old) (Nat.le_succ _) ⟨?_, out, ep, y1, he'⟩, rfl, q ys _ (I.hok.fresh (Nat.le_succ _)) y2⟩
  rw [y1.length, ho]
  exact hlen
end
section
variable {β : Type} {K : PySem.W.Frag} {σ : L2.St} {H : Hp} {enc : β → PyData} {Pd : List β → Prop} {ta : TA}
theorem evf_sorted {bs : List β} (ha : EvAP ta σ H (fun vs H1 => ∃ v, vs = [v] ∧ Dp K H1 v (.list (bs.map enc)))) (hb : Pd bs) : EvF (tCB (rSortedD K enc Pd) ta) σ H (fun p H2 => ∃ ys, H2 p = some (.lst ys) ∧ DpAll K H2 ys ((bs.mergeSort (PySem.W.dataLe false enc)).map enc)) := fun H1 e Q q =>
  ha H1 e _ fun vs H2 e2 ⟨v, hv, hd⟩ => by
    obtain ⟨a, xs, rfl, h1, h2⟩ := dp_list.mp hd
    subst hv
    exact ⟨a, xs, bs, rfl, h1, h2, hb, fun ys p hp hy => q p _ (Evl.fresh_back e2 hp) (e2.trans (Ex.new hp)) ⟨ys, upd_same, DpAll.ex (Ex.new hp) hy⟩⟩
end
end Tx
end

section
set_option Elab.async false
set_option linter.all false
set_option maxRecDepth 100000
set_option maxHeartbeats 4000000
/-! printed by tops.py -/
namespace Tx
open PySem PySem.Spec PyProof.Rows L2
def top (i : Nat) : Stmt := PySem.Challenge.pw_tabletexts_s01_answers.main.body.getD i (.Pass ⟨0, 0, 0, 0⟩)
abbrev s_Call_init : Stmt := inClass (top 3) 0
abbrev s_heads_end : Stmt := top 4
abbrev s_call_end : Stmt := top 5
abbrev s_call_at : Stmt := top 6
abbrev s_cut : Stmt := top 7
abbrev s_is_digit : Stmt := top 14
abbrev s_is_small : Stmt := top 15
abbrev s_is_seen : Stmt := top 16
abbrev s_is_word : Stmt := top 17
abbrev s_is_name : Stmt := top 18
abbrev s_digits_from : Stmt := top 19
abbrev s_is_number_text : Stmt := top 20
abbrev s_number_of : Stmt := top 21
abbrev s_digits : Stmt := top 22
abbrev s_decimal : Stmt := top 23
abbrev s_number_cell : Stmt := top 27
abbrev s_word_cell : Stmt := top 28
abbrev s_in_limits : Stmt := top 29
abbrev s_told_bytes : Stmt := top 30
abbrev s_told_cell : Stmt := top 31
abbrev s_needs_quotes : Stmt := top 32
abbrev s_in_quotes : Stmt := top 33
abbrev s_shown_cell : Stmt := top 34
abbrev s_is_column : Stmt := top 36
abbrev s_columns_good : Stmt := top 37
abbrev s_column_cells : Stmt := top 38
abbrev s_numbers_of : Stmt := top 39
abbrev s_words_of : Stmt := top 40
abbrev s_kind_of : Stmt := top 41
abbrev s_how_many_empty : Stmt := top 42
abbrev s_how_many_unlike : Stmt := top 43
abbrev s_column_told : Stmt := top 44
abbrev s_found : Stmt := top 45
abbrev s_alike_in : Stmt := top 48
abbrev s_earlier : Stmt := top 49
abbrev s_twice : Stmt := top 50
abbrev s_is_key : Stmt := top 51
abbrev s_columns_in : Stmt := top 52
abbrev s_column_sets : Stmt := top 53
abbrev s_is_part : Stmt := top 54
abbrev s_least_keys : Stmt := top 55
abbrev s_picked : Stmt := top 57
abbrev s_ordered_rows : Stmt := top 58
abbrev s_same_rows : Stmt := top 59
abbrev s_rows_by_names : Stmt := top 60
abbrev s_how_alike : Stmt := top 61
abbrev s_Table_init : Stmt := inClass (top 63) 0
abbrev s_shown_line : Stmt := top 64
abbrev s_shown_table : Stmt := top 65
abbrev s_told_table : Stmt := top 66
abbrev s_Taker_init : Stmt := inClass (top 68) 0
abbrev s_Taker_number : Stmt := inClass (top 68) 1
abbrev s_Taker_word : Stmt := inClass (top 68) 2
abbrev s_Taker_cell : Stmt := inClass (top 68) 3
abbrev s_Taker_headings : Stmt := inClass (top 68) 4
abbrev s_Taker_row : Stmt := inClass (top 68) 5
abbrev s_Taker_whole : Stmt := inClass (top 68) 6
abbrev s_names_good : Stmt := top 69
abbrev s_taken_cell : Stmt := top 70
abbrev s_taken_table : Stmt := top 71
abbrev s_counted : Stmt := top 73
abbrev s_ask_cell : Stmt := top 74
abbrev s_ask_column : Stmt := top 75
abbrev s_ask_find : Stmt := top 76
abbrev s_ask_key : Stmt := top 77
abbrev s_ask_keys : Stmt := top 78
abbrev s_ask_sorted : Stmt := top 79
abbrev s_asked : Stmt := top 80
abbrev s_Piece_init : Stmt := inClass (top 82) 0
abbrev s_opens : Stmt := top 83
abbrev s_parts_cells : Stmt := top 84
abbrev s_bare_end : Stmt := top 85
abbrev s_closing : Stmt := top 86
abbrev s_cell_end : Stmt := top 87
abbrev s_goes_on : Stmt := top 88
abbrev s_starts : Stmt := top 89
abbrev s_quoted_bytes : Stmt := top 90
abbrev s_piece_at : Stmt := top 91
abbrev s_lines_of : Stmt := top 92
abbrev s_tells_empty : Stmt := top 94
abbrev s_tells_number : Stmt := top 95
abbrev s_tells_cell : Stmt := top 96
abbrev s_cell_of : Stmt := top 97
abbrev s_row_of : Stmt := top 98
abbrev s_text_table : Stmt := top 99
abbrev s_byte_fault : Stmt := top 104
abbrev s_quote_fault_at : Stmt := top 105
abbrev s_quote_fault : Stmt := top 106
abbrev s_names_fault : Stmt := top 107
abbrev s_row_fault : Stmt := top 108
abbrev s_lines_fault : Stmt := top 109
abbrev s_text_fault : Stmt := top 110
abbrev s_Desk_init : Stmt := inClass (top 113) 0
abbrev s_Desk_table : Stmt := inClass (top 113) 1
abbrev s_Desk_keep : Stmt := inClass (top 113) 2
abbrev s_load : Stmt := top 114
abbrev s_take : Stmt := top 115
abbrev s_alike : Stmt := top 116
abbrev s_answer : Stmt := top 117
abbrev s_answers : Stmt := top 119
theorem sc_Call_init : FnScope ["self", "deed", "heads", "listed"] ["self", "deed", "heads", "listed"] (defScope s_Call_init) := ⟨rfl, rfl, rfl, by decide +kernel, rfl, by decide +kernel, by decide +kernel⟩
theorem sc_heads_end : FnScope ["calls", "at"] ["calls", "at"] (defScope s_heads_end) := ⟨rfl, rfl, rfl, by decide +kernel, rfl, by decide +kernel, by decide +kernel⟩
theorem sc_call_end : FnScope ["calls", "at", "behind"] ["calls", "at"] (defScope s_call_end) := ⟨rfl, rfl, rfl, by decide +kernel, rfl, by decide +kernel, by decide +kernel⟩
theorem sc_call_at : FnScope ["calls", "at", "behind", "heads"] ["calls", "at"] (defScope s_call_at) := ⟨rfl, rfl, rfl, by decide +kernel, rfl, by decide +kernel, by decide +kernel⟩
theorem sc_cut : FnScope ["calls", "out", "at"] ["calls"] (defScope s_cut) := ⟨rfl, rfl, rfl, by decide +kernel, rfl, by decide +kernel, by decide +kernel⟩
theorem sc_is_digit : FnScope ["byte"] ["byte"] (defScope s_is_digit) := ⟨rfl, rfl, rfl, by decide +kernel, rfl, by decide +kernel, by decide +kernel⟩
theorem sc_is_small : FnScope ["byte"] ["byte"] (defScope s_is_small) := ⟨rfl, rfl, rfl, by decide +kernel, rfl, by decide +kernel, by decide +kernel⟩
theorem sc_is_seen : FnScope ["byte"] ["byte"] (defScope s_is_seen) := ⟨rfl, rfl, rfl, by decide +kernel, rfl, by decide +kernel, by decide +kernel⟩
theorem sc_is_word : FnScope ["said", "byte"] ["said"] (defScope s_is_word) := ⟨rfl, rfl, rfl, by decide +kernel, rfl, by decide +kernel, by decide +kernel⟩
theorem sc_is_name : FnScope ["said", "byte"] ["said"] (defScope s_is_name) := ⟨rfl, rfl, rfl, by decide +kernel, rfl, by decide +kernel, by decide +kernel⟩
theorem sc_digits_from : FnScope ["said"] ["said"] (defScope s_digits_from) := ⟨rfl, rfl, rfl, by decide +kernel, rfl, by decide +kernel, by decide +kernel⟩
theorem sc_is_number_text : FnScope ["said", "at", "k"] ["said"] (defScope s_is_number_text) := ⟨rfl, rfl, rfl, by decide +kernel, rfl, by decide +kernel, by decide +kernel⟩
theorem sc_number_of : FnScope ["said", "at", "number", "k"] ["said"] (defScope s_number_of) := ⟨rfl, rfl, rfl, by decide +kernel, rfl, by decide +kernel, by decide +kernel⟩
theorem sc_digits : FnScope ["number", "turned", "left"] ["number"] (defScope s_digits) := ⟨rfl, rfl, rfl, by decide +kernel, rfl, by decide +kernel, by decide +kernel⟩
theorem sc_decimal : FnScope ["number"] ["number"] (defScope s_decimal) := ⟨rfl, rfl, rfl, by decide +kernel, rfl, by decide +kernel, by decide +kernel⟩
theorem sc_number_cell : FnScope ["number"] ["number"] (defScope s_number_cell) := ⟨rfl, rfl, rfl, by decide +kernel, rfl, by decide +kernel, by decide +kernel⟩
theorem sc_word_cell : FnScope ["said"] ["said"] (defScope s_word_cell) := ⟨rfl, rfl, rfl, by decide +kernel, rfl, by decide +kernel, by decide +kernel⟩
theorem sc_in_limits : FnScope ["number"] ["number"] (defScope s_in_limits) := ⟨rfl, rfl, rfl, by decide +kernel, rfl, by decide +kernel, by decide +kernel⟩
theorem sc_told_bytes : FnScope ["said"] ["said"] (defScope s_told_bytes) := ⟨rfl, rfl, rfl, by decide +kernel, rfl, by decide +kernel, by decide +kernel⟩
theorem sc_told_cell : FnScope ["cell"] ["cell"] (defScope s_told_cell) := ⟨rfl, rfl, rfl, by decide +kernel, rfl, by decide +kernel, by decide +kernel⟩
theorem sc_needs_quotes : FnScope ["said"] ["said"] (defScope s_needs_quotes) := ⟨rfl, rfl, rfl, by decide +kernel, rfl, by decide +kernel, by decide +kernel⟩
theorem sc_in_quotes : FnScope ["said", "out", "byte"] ["said"] (defScope s_in_quotes) := ⟨rfl, rfl, rfl, by decide +kernel, rfl, by decide +kernel, by decide +kernel⟩
theorem sc_shown_cell : FnScope ["cell", "said"] ["cell"] (defScope s_shown_cell) := ⟨rfl, rfl, rfl, by decide +kernel, rfl, by decide +kernel, by decide +kernel⟩
theorem sc_is_column : FnScope ["table", "column"] ["table", "column"] (defScope s_is_column) := ⟨rfl, rfl, rfl, by decide +kernel, rfl, by decide +kernel, by decide +kernel⟩
theorem sc_columns_good : FnScope ["table", "columns", "k"] ["table", "columns"] (defScope s_columns_good) := ⟨rfl, rfl, rfl, by decide +kernel, rfl, by decide +kernel, by decide +kernel⟩
theorem sc_column_cells : FnScope ["table", "column", "row"] ["table", "column"] (defScope s_column_cells) := ⟨rfl, rfl, rfl, by decide +kernel, rfl, by decide +kernel, by decide +kernel⟩
theorem sc_numbers_of : FnScope ["cells", "cell"] ["cells"] (defScope s_numbers_of) := ⟨rfl, rfl, rfl, by decide +kernel, rfl, by decide +kernel, by decide +kernel⟩
theorem sc_words_of : FnScope ["cells", "cell"] ["cells"] (defScope s_words_of) := ⟨rfl, rfl, rfl, by decide +kernel, rfl, by decide +kernel, by decide +kernel⟩
theorem sc_kind_of : FnScope ["cells", "kind"] ["cells"] (defScope s_kind_of) := ⟨rfl, rfl, rfl, by decide +kernel, rfl, by decide +kernel, by decide +kernel⟩
theorem sc_how_many_empty : FnScope ["cells", "cell"] ["cells"] (defScope s_how_many_empty) := ⟨rfl, rfl, rfl, by decide +kernel, rfl, by decide +kernel, by decide +kernel⟩
theorem sc_how_many_unlike : FnScope ["cells", "unlike", "cell"] ["cells"] (defScope s_how_many_unlike) := ⟨rfl, rfl, rfl, by decide +kernel, rfl, by decide +kernel, by decide +kernel⟩
theorem sc_column_told : FnScope ["table", "column", "cells", "out", "numbers"] ["table", "column"] (defScope s_column_told) := ⟨rfl, rfl, rfl, by decide +kernel, rfl, by decide +kernel, by decide +kernel⟩
theorem sc_found : FnScope ["table", "cell", "out", "k", "row", "column"] ["table", "cell"] (defScope s_found) := ⟨rfl, rfl, rfl, by decide +kernel, rfl, by decide +kernel, by decide +kernel⟩
theorem sc_alike_in : FnScope ["one", "other", "columns", "column"] ["one", "other", "columns"] (defScope s_alike_in) := ⟨rfl, rfl, rfl, by decide +kernel, rfl, by decide +kernel, by decide +kernel⟩
theorem sc_earlier : FnScope ["table", "columns", "row", "k"] ["table", "columns", "row"] (defScope s_earlier) := ⟨rfl, rfl, rfl, by decide +kernel, rfl, by decide +kernel, by decide +kernel⟩
theorem sc_twice : FnScope ["table", "columns", "row", "k"] ["table", "columns"] (defScope s_twice) := ⟨rfl, rfl, rfl, by decide +kernel, rfl, by decide +kernel, by decide +kernel⟩
theorem sc_is_key : FnScope ["table", "columns"] ["table", "columns"] (defScope s_is_key) := ⟨rfl, rfl, rfl, by decide +kernel, rfl, by decide +kernel, by decide +kernel⟩
theorem sc_columns_in : FnScope ["many", "bits", "column"] ["many", "bits"] (defScope s_columns_in) := ⟨rfl, rfl, rfl, by decide +kernel, rfl, by decide +kernel, by decide +kernel⟩
theorem sc_column_sets : FnScope ["many", "sized", "bits", "columns", "pair"] ["many"] (defScope s_column_sets) := ⟨rfl, rfl, rfl, by decide +kernel, rfl, by decide +kernel, by decide +kernel⟩
theorem sc_is_part : FnScope ["some", "columns", "column"] ["some", "columns"] (defScope s_is_part) := ⟨rfl, rfl, rfl, by decide +kernel, rfl, by decide +kernel, by decide +kernel⟩
theorem sc_least_keys : FnScope ["table", "out", "columns", "least"] ["table"] (defScope s_least_keys) := ⟨rfl, rfl, rfl, by decide +kernel, rfl, by decide +kernel, by decide +kernel⟩
theorem sc_picked : FnScope ["row", "columns", "column"] ["row", "columns"] (defScope s_picked) := ⟨rfl, rfl, rfl, by decide +kernel, rfl, by decide +kernel, by decide +kernel⟩
theorem sc_ordered_rows : FnScope ["table", "columns", "placed", "k", "pair"] ["table", "columns"] (defScope s_ordered_rows) := ⟨rfl, rfl, rfl, by decide +kernel, rfl, by decide +kernel, by decide +kernel⟩
theorem sc_same_rows : FnScope ["ones", "others"] ["ones", "others"] (defScope s_same_rows) := ⟨rfl, rfl, rfl, by decide +kernel, rfl, by decide +kernel, by decide +kernel⟩
theorem sc_rows_by_names : FnScope ["table", "names", "columns", "name", "row"] ["table", "names"] (defScope s_rows_by_names) := ⟨rfl, rfl, rfl, by decide +kernel, rfl, by decide +kernel, by decide +kernel⟩
theorem sc_how_alike : FnScope ["one", "other"] ["one", "other"] (defScope s_how_alike) := ⟨rfl, rfl, rfl, by decide +kernel, rfl, by decide +kernel, by decide +kernel⟩
theorem sc_Table_init : FnScope ["self", "names", "rows"] ["self", "names", "rows"] (defScope s_Table_init) := ⟨rfl, rfl, rfl, by decide +kernel, rfl, by decide +kernel, by decide +kernel⟩
theorem sc_shown_line : FnScope ["parts", "out", "k"] ["parts"] (defScope s_shown_line) := ⟨rfl, rfl, rfl, by decide +kernel, rfl, by decide +kernel, by decide +kernel⟩
theorem sc_shown_table : FnScope ["table", "out", "row", "name", "cell"] ["table"] (defScope s_shown_table) := ⟨rfl, rfl, rfl, by decide +kernel, rfl, by decide +kernel, by decide +kernel⟩
theorem sc_told_table : FnScope ["table", "out", "name", "row", "cell"] ["table"] (defScope s_told_table) := ⟨rfl, rfl, rfl, by decide +kernel, rfl, by decide +kernel, by decide +kernel⟩
theorem sc_Taker_init : FnScope ["self", "numbers"] ["self", "numbers"] (defScope s_Taker_init) := ⟨rfl, rfl, rfl, by decide +kernel, rfl, by decide +kernel, by decide +kernel⟩
theorem sc_Taker_number : FnScope ["self", "least", "most", "found"] ["self", "least", "most"] (defScope s_Taker_number) := ⟨rfl, rfl, rfl, by decide +kernel, rfl, by decide +kernel, by decide +kernel⟩
theorem sc_Taker_word : FnScope ["self", "many", "out", "k"] ["self"] (defScope s_Taker_word) := ⟨rfl, rfl, rfl, by decide +kernel, rfl, by decide +kernel, by decide +kernel⟩
theorem sc_Taker_cell : FnScope ["self", "kind"] ["self"] (defScope s_Taker_cell) := ⟨rfl, rfl, rfl, by decide +kernel, rfl, by decide +kernel, by decide +kernel⟩
theorem sc_Taker_headings : FnScope ["self", "many", "out", "k"] ["self"] (defScope s_Taker_headings) := ⟨rfl, rfl, rfl, by decide +kernel, rfl, by decide +kernel, by decide +kernel⟩
theorem sc_Taker_row : FnScope ["self", "columns", "out", "k"] ["self", "columns"] (defScope s_Taker_row) := ⟨rfl, rfl, rfl, by decide +kernel, rfl, by decide +kernel, by decide +kernel⟩
theorem sc_Taker_whole : FnScope ["self"] ["self"] (defScope s_Taker_whole) := ⟨rfl, rfl, rfl, by decide +kernel, rfl, by decide +kernel, by decide +kernel⟩
theorem sc_names_good : FnScope ["said", "k"] ["said"] (defScope s_names_good) := ⟨rfl, rfl, rfl, by decide +kernel, rfl, by decide +kernel, by decide +kernel⟩
theorem sc_taken_cell : FnScope ["numbers", "taker", "cell"] ["numbers"] (defScope s_taken_cell) := ⟨rfl, rfl, rfl, by decide +kernel, rfl, by decide +kernel, by decide +kernel⟩
theorem sc_taken_table : FnScope ["numbers", "taker", "said", "many", "lines", "k"] ["numbers"] (defScope s_taken_table) := ⟨rfl, rfl, rfl, by decide +kernel, rfl, by decide +kernel, by decide +kernel⟩
theorem sc_counted : FnScope ["numbers"] ["numbers"] (defScope s_counted) := ⟨rfl, rfl, rfl, by decide +kernel, rfl, by decide +kernel, by decide +kernel⟩
theorem sc_ask_cell : FnScope ["table", "row", "column"] ["table", "row", "column"] (defScope s_ask_cell) := ⟨rfl, rfl, rfl, by decide +kernel, rfl, by decide +kernel, by decide +kernel⟩
theorem sc_ask_column : FnScope ["table", "column"] ["table", "column"] (defScope s_ask_column) := ⟨rfl, rfl, rfl, by decide +kernel, rfl, by decide +kernel, by decide +kernel⟩
theorem sc_ask_find : FnScope ["table", "numbers", "cell", "pairs", "out", "pair"] ["table", "numbers"] (defScope s_ask_find) := ⟨rfl, rfl, rfl, by decide +kernel, rfl, by decide +kernel, by decide +kernel⟩
theorem sc_ask_key : FnScope ["table", "columns", "rows"] ["table", "columns"] (defScope s_ask_key) := ⟨rfl, rfl, rfl, by decide +kernel, rfl, by decide +kernel, by decide +kernel⟩
theorem sc_ask_keys : FnScope ["table", "least", "out", "columns"] ["table"] (defScope s_ask_keys) := ⟨rfl, rfl, rfl, by decide +kernel, rfl, by decide +kernel, by decide +kernel⟩
theorem sc_ask_sorted : FnScope ["table", "columns"] ["table", "columns"] (defScope s_ask_sorted) := ⟨rfl, rfl, rfl, by decide +kernel, rfl, by decide +kernel, by decide +kernel⟩
theorem sc_asked : FnScope ["table", "call"] ["table", "call"] (defScope s_asked) := ⟨rfl, rfl, rfl, by decide +kernel, rfl, by decide +kernel, by decide +kernel⟩
theorem sc_Piece_init : FnScope ["self", "place", "said", "quoted"] ["self", "place", "said", "quoted"] (defScope s_Piece_init) := ⟨rfl, rfl, rfl, by decide +kernel, rfl, by decide +kernel, by decide +kernel⟩
theorem sc_opens : FnScope ["text", "at"] ["text", "at"] (defScope s_opens) := ⟨rfl, rfl, rfl, by decide +kernel, rfl, by decide +kernel, by decide +kernel⟩
theorem sc_parts_cells : FnScope ["byte"] ["byte"] (defScope s_parts_cells) := ⟨rfl, rfl, rfl, by decide +kernel, rfl, by decide +kernel, by decide +kernel⟩
theorem sc_bare_end : FnScope ["text", "at", "k"] ["text", "at"] (defScope s_bare_end) := ⟨rfl, rfl, rfl, by decide +kernel, rfl, by decide +kernel, by decide +kernel⟩
theorem sc_closing : FnScope ["text", "at", "k"] ["text", "at"] (defScope s_closing) := ⟨rfl, rfl, rfl, by decide +kernel, rfl, by decide +kernel, by decide +kernel⟩
theorem sc_cell_end : FnScope ["text", "at", "close"] ["text", "at"] (defScope s_cell_end) := ⟨rfl, rfl, rfl, by decide +kernel, rfl, by decide +kernel, by decide +kernel⟩
theorem sc_goes_on : FnScope ["text", "end"] ["text", "end"] (defScope s_goes_on) := ⟨rfl, rfl, rfl, by decide +kernel, rfl, by decide +kernel, by decide +kernel⟩
theorem sc_starts : FnScope ["text", "out", "end"] ["text"] (defScope s_starts) := ⟨rfl, rfl, rfl, by decide +kernel, rfl, by decide +kernel, by decide +kernel⟩
theorem sc_quoted_bytes : FnScope ["text", "at", "close", "out", "k"] ["text", "at", "close"] (defScope s_quoted_bytes) := ⟨rfl, rfl, rfl, by decide +kernel, rfl, by decide +kernel, by decide +kernel⟩
theorem sc_piece_at : FnScope ["text", "at"] ["text", "at"] (defScope s_piece_at) := ⟨rfl, rfl, rfl, by decide +kernel, rfl, by decide +kernel, by decide +kernel⟩
theorem sc_lines_of : FnScope ["text", "lines", "at"] ["text"] (defScope s_lines_of) := ⟨rfl, rfl, rfl, by decide +kernel, rfl, by decide +kernel, by decide +kernel⟩
theorem sc_tells_empty : FnScope ["piece"] ["piece"] (defScope s_tells_empty) := ⟨rfl, rfl, rfl, by decide +kernel, rfl, by decide +kernel, by decide +kernel⟩
theorem sc_tells_number : FnScope ["piece"] ["piece"] (defScope s_tells_number) := ⟨rfl, rfl, rfl, by decide +kernel, rfl, by decide +kernel, by decide +kernel⟩
theorem sc_tells_cell : FnScope ["piece"] ["piece"] (defScope s_tells_cell) := ⟨rfl, rfl, rfl, by decide +kernel, rfl, by decide +kernel, by decide +kernel⟩
theorem sc_cell_of : FnScope ["piece"] ["piece"] (defScope s_cell_of) := ⟨rfl, rfl, rfl, by decide +kernel, rfl, by decide +kernel, by decide +kernel⟩
theorem sc_row_of : FnScope ["line", "piece"] ["line"] (defScope s_row_of) := ⟨rfl, rfl, rfl, by decide +kernel, rfl, by decide +kernel, by decide +kernel⟩
theorem sc_text_table : FnScope ["text", "lines", "names", "piece", "line"] ["text"] (defScope s_text_table) := ⟨rfl, rfl, rfl, by decide +kernel, rfl, by decide +kernel, by decide +kernel⟩
theorem sc_byte_fault : FnScope ["text", "at"] ["text"] (defScope s_byte_fault) := ⟨rfl, rfl, rfl, by decide +kernel, rfl, by decide +kernel, by decide +kernel⟩
theorem sc_quote_fault_at : FnScope ["text", "at", "close"] ["text", "at"] (defScope s_quote_fault_at) := ⟨rfl, rfl, rfl, by decide +kernel, rfl, by decide +kernel, by decide +kernel⟩
theorem sc_quote_fault : FnScope ["text", "at", "fault"] ["text"] (defScope s_quote_fault) := ⟨rfl, rfl, rfl, by decide +kernel, rfl, by decide +kernel, by decide +kernel⟩
theorem sc_names_fault : FnScope ["line", "before", "piece"] ["line"] (defScope s_names_fault) := ⟨rfl, rfl, rfl, by decide +kernel, rfl, by decide +kernel, by decide +kernel⟩
theorem sc_row_fault : FnScope ["line", "row", "columns", "piece"] ["line", "row", "columns"] (defScope s_row_fault) := ⟨rfl, rfl, rfl, by decide +kernel, rfl, by decide +kernel, by decide +kernel⟩
theorem sc_lines_fault : FnScope ["lines", "fault", "k"] ["lines"] (defScope s_lines_fault) := ⟨rfl, rfl, rfl, by decide +kernel, rfl, by decide +kernel, by decide +kernel⟩
theorem sc_text_fault : FnScope ["text", "fault"] ["text"] (defScope s_text_fault) := ⟨rfl, rfl, rfl, by decide +kernel, rfl, by decide +kernel, by decide +kernel⟩
theorem sc_Desk_init : FnScope ["self"] ["self"] (defScope s_Desk_init) := ⟨rfl, rfl, rfl, by decide +kernel, rfl, by decide +kernel, by decide +kernel⟩
theorem sc_Desk_table : FnScope ["self", "side"] ["self", "side"] (defScope s_Desk_table) := ⟨rfl, rfl, rfl, by decide +kernel, rfl, by decide +kernel, by decide +kernel⟩
theorem sc_Desk_keep : FnScope ["self", "side", "table"] ["self", "side", "table"] (defScope s_Desk_keep) := ⟨rfl, rfl, rfl, by decide +kernel, rfl, by decide +kernel, by decide +kernel⟩
theorem sc_load : FnScope ["desk", "side", "text", "fault", "table"] ["desk", "side", "text"] (defScope s_load) := ⟨rfl, rfl, rfl, by decide +kernel, rfl, by decide +kernel, by decide +kernel⟩
theorem sc_take : FnScope ["desk", "side", "numbers", "table"] ["desk", "side", "numbers"] (defScope s_take) := ⟨rfl, rfl, rfl, by decide +kernel, rfl, by decide +kernel, by decide +kernel⟩
theorem sc_alike : FnScope ["desk", "one", "other"] ["desk"] (defScope s_alike) := ⟨rfl, rfl, rfl, by decide +kernel, rfl, by decide +kernel, by decide +kernel⟩
theorem sc_answer : FnScope ["desk", "call", "side", "table"] ["desk", "call"] (defScope s_answer) := ⟨rfl, rfl, rfl, by decide +kernel, rfl, by decide +kernel, by decide +kernel⟩
theorem sc_answers : FnScope ["calls", "desk", "out", "call", "said"] ["calls"] (defScope s_answers) := ⟨rfl, rfl, rfl, by decide +kernel, rfl, by decide +kernel, by decide +kernel⟩
structure Ads where
  EMPTY : Addr
  NEVER : Addr
  NO_FAULT : Addr
  HEADS : Addr
  LISTS : Addr
  Call : Addr
  Table : Addr
  Taker : Addr
  Piece : Addr
  Desk : Addr
structure MethAt (K : PySem.W.Frag) (C : Addr) (m qual : Str) (st : Stmt) (ps : List Str) : Prop where
  ex : ∃ f fd, Fun K m qual st f fd ∧ Meth K C m f ∧ Binds K fd ps []
structure InitAt (K : PySem.W.Frag) (mg : Str → Option Value) (x : Str) (C : Addr) (qual : Str) (st : Stmt) (ps : List Str) : Prop where
  ex : ∃ f fd, Fun K "__init__" qual st f fd ∧ Mk K C f ∧ mg x = some (.ref C) ∧ Binds K fd ps []
structure Tops (K : PySem.W.Frag) (mg : Str → Option Value) (ad : Ads) : Prop where
  b_all : mg "all" = none
  b_any : mg "any" = none
  b_len : mg "len" = none
  b_list : mg "list" = none
  b_max : mg "max" = none
  b_min : mg "min" = none
  b_range : mg "range" = none
  b_sorted : mg "sorted" = none
  b_sum : mg "sum" = none
  b_tuple : mg "tuple" = none
  c_LINE_END : ∃ u, mg "LINE_END" = some (.int 10 u)
  c_QUOTES : ∃ u, mg "QUOTES" = some (.int 34 u)
  c_COMMA : ∃ u, mg "COMMA" = some (.int 44 u)
  c_MINUS : ∃ u, mg "MINUS" = some (.int 45 u)
  c_ZERO : ∃ u, mg "ZERO" = some (.int 48 u)
  c_LIMIT : ∃ u, mg "LIMIT" = some (.int 1000000 u)
  c_MOST_COLUMNS : ∃ u, mg "MOST_COLUMNS" = some (.int 5 u)
  c_MOST_ROWS : ∃ u, mg "MOST_ROWS" = some (.int 12 u)
  c_MOST_BYTES : ∃ u, mg "MOST_BYTES" = some (.int 1000 u)
  c_EMPTY : mg "EMPTY" = some (.ref ad.EMPTY)
  d_EMPTY : ∀ H, SqT K H ad.EMPTY [.int 0]
  c_NEVER : mg "NEVER" = some (.ref ad.NEVER)
  d_NEVER : ∀ H, SqT K H ad.NEVER [.int (-1), .int (-1)]
  c_NO_FAULT : mg "NO_FAULT" = some (.ref ad.NO_FAULT)
  d_NO_FAULT : ∀ H, SqT K H ad.NO_FAULT [.int 0, .int 0]
  c_HEADS : mg "HEADS" = some (.ref ad.HEADS)
  d_HEADS : ∀ H, SqT K H ad.HEADS [.int 1, .int 1, .int 1, .int 1, .int 3, .int 2, .int 1, .int 1, .int 1, .int 1, .int 0]
  c_LISTS : mg "LISTS" = some (.ref ad.LISTS)
  d_LISTS : ∀ H, SqT K H ad.LISTS [.bl true, .bl true, .bl false, .bl false, .bl false, .bl false, .bl true, .bl true, .bl false, .bl true, .bl false]
  f_heads_end : DefAt K mg "heads_end" s_heads_end ["calls", "at"]
  f_call_end : DefAt K mg "call_end" s_call_end ["calls", "at"]
  f_call_at : DefAt K mg "call_at" s_call_at ["calls", "at"]
  f_cut : DefAt K mg "cut" s_cut ["calls"]
  f_is_digit : DefAt K mg "is_digit" s_is_digit ["byte"]
  f_is_small : DefAt K mg "is_small" s_is_small ["byte"]
  f_is_seen : DefAt K mg "is_seen" s_is_seen ["byte"]
  f_is_word : DefAt K mg "is_word" s_is_word ["said"]
  f_is_name : DefAt K mg "is_name" s_is_name ["said"]
  f_digits_from : DefAt K mg "digits_from" s_digits_from ["said"]
  f_is_number_text : DefAt K mg "is_number_text" s_is_number_text ["said"]
  f_number_of : DefAt K mg "number_of" s_number_of ["said"]
  f_digits : DefAt K mg "digits" s_digits ["number"]
  f_decimal : DefAt K mg "decimal" s_decimal ["number"]
  f_number_cell : DefAt K mg "number_cell" s_number_cell ["number"]
  f_word_cell : DefAt K mg "word_cell" s_word_cell ["said"]
  f_in_limits : DefAt K mg "in_limits" s_in_limits ["number"]
  f_told_bytes : DefAt K mg "told_bytes" s_told_bytes ["said"]
  f_told_cell : DefAt K mg "told_cell" s_told_cell ["cell"]
  f_needs_quotes : DefAt K mg "needs_quotes" s_needs_quotes ["said"]
  f_in_quotes : DefAt K mg "in_quotes" s_in_quotes ["said"]
  f_shown_cell : DefAt K mg "shown_cell" s_shown_cell ["cell"]
  f_is_column : DefAt K mg "is_column" s_is_column ["table", "column"]
  f_columns_good : DefAt K mg "columns_good" s_columns_good ["table", "columns"]
  f_column_cells : DefAt K mg "column_cells" s_column_cells ["table", "column"]
  f_numbers_of : DefAt K mg "numbers_of" s_numbers_of ["cells"]
  f_words_of : DefAt K mg "words_of" s_words_of ["cells"]
  f_kind_of : DefAt K mg "kind_of" s_kind_of ["cells"]
  f_how_many_empty : DefAt K mg "how_many_empty" s_how_many_empty ["cells"]
  f_how_many_unlike : DefAt K mg "how_many_unlike" s_how_many_unlike ["cells"]
  f_column_told : DefAt K mg "column_told" s_column_told ["table", "column"]
  f_found : DefAt K mg "found" s_found ["table", "cell"]
  f_alike_in : DefAt K mg "alike_in" s_alike_in ["one", "other", "columns"]
  f_earlier : DefAt K mg "earlier" s_earlier ["table", "columns", "row"]
  f_twice : DefAt K mg "twice" s_twice ["table", "columns"]
  f_is_key : DefAt K mg "is_key" s_is_key ["table", "columns"]
  f_columns_in : DefAt K mg "columns_in" s_columns_in ["many", "bits"]
  f_column_sets : DefAt K mg "column_sets" s_column_sets ["many"]
  f_is_part : DefAt K mg "is_part" s_is_part ["some", "columns"]
  f_least_keys : DefAt K mg "least_keys" s_least_keys ["table"]
  f_picked : DefAt K mg "picked" s_picked ["row", "columns"]
  f_ordered_rows : DefAt K mg "ordered_rows" s_ordered_rows ["table", "columns"]
  f_same_rows : DefAt K mg "same_rows" s_same_rows ["ones", "others"]
  f_rows_by_names : DefAt K mg "rows_by_names" s_rows_by_names ["table", "names"]
  f_how_alike : DefAt K mg "how_alike" s_how_alike ["one", "other"]
  f_shown_line : DefAt K mg "shown_line" s_shown_line ["parts"]
  f_shown_table : DefAt K mg "shown_table" s_shown_table ["table"]
  f_told_table : DefAt K mg "told_table" s_told_table ["table"]
  f_names_good : DefAt K mg "names_good" s_names_good ["said"]
  f_taken_cell : DefAt K mg "taken_cell" s_taken_cell ["numbers"]
  f_taken_table : DefAt K mg "taken_table" s_taken_table ["numbers"]
  f_counted : DefAt K mg "counted" s_counted ["numbers"]
  f_ask_cell : DefAt K mg "ask_cell" s_ask_cell ["table", "row", "column"]
  f_ask_column : DefAt K mg "ask_column" s_ask_column ["table", "column"]
  f_ask_find : DefAt K mg "ask_find" s_ask_find ["table", "numbers"]
  f_ask_key : DefAt K mg "ask_key" s_ask_key ["table", "columns"]
  f_ask_keys : DefAt K mg "ask_keys" s_ask_keys ["table"]
  f_ask_sorted : DefAt K mg "ask_sorted" s_ask_sorted ["table", "columns"]
  f_asked : DefAt K mg "asked" s_asked ["table", "call"]
  f_opens : DefAt K mg "opens" s_opens ["text", "at"]
  f_parts_cells : DefAt K mg "parts_cells" s_parts_cells ["byte"]
  f_bare_end : DefAt K mg "bare_end" s_bare_end ["text", "at"]
  f_closing : DefAt K mg "closing" s_closing ["text", "at"]
  f_cell_end : DefAt K mg "cell_end" s_cell_end ["text", "at"]
  f_goes_on : DefAt K mg "goes_on" s_goes_on ["text", "end"]
  f_starts : DefAt K mg "starts" s_starts ["text"]
  f_quoted_bytes : DefAt K mg "quoted_bytes" s_quoted_bytes ["text", "at", "close"]
  f_piece_at : DefAt K mg "piece_at" s_piece_at ["text", "at"]
  f_lines_of : DefAt K mg "lines_of" s_lines_of ["text"]
  f_tells_empty : DefAt K mg "tells_empty" s_tells_empty ["piece"]
  f_tells_number : DefAt K mg "tells_number" s_tells_number ["piece"]
  f_tells_cell : DefAt K mg "tells_cell" s_tells_cell ["piece"]
  f_cell_of : DefAt K mg "cell_of" s_cell_of ["piece"]
  f_row_of : DefAt K mg "row_of" s_row_of ["line"]
  f_text_table : DefAt K mg "text_table" s_text_table ["text"]
  f_byte_fault : DefAt K mg "byte_fault" s_byte_fault ["text"]
  f_quote_fault_at : DefAt K mg "quote_fault_at" s_quote_fault_at ["text", "at"]
  f_quote_fault : DefAt K mg "quote_fault" s_quote_fault ["text"]
  f_names_fault : DefAt K mg "names_fault" s_names_fault ["line"]
  f_row_fault : DefAt K mg "row_fault" s_row_fault ["line", "row", "columns"]
  f_lines_fault : DefAt K mg "lines_fault" s_lines_fault ["lines"]
  f_text_fault : DefAt K mg "text_fault" s_text_fault ["text"]
  f_load : DefAt K mg "load" s_load ["desk", "side", "text"]
  f_take : DefAt K mg "take" s_take ["desk", "side", "numbers"]
  f_alike : DefAt K mg "alike" s_alike ["desk"]
  f_answer : DefAt K mg "answer" s_answer ["desk", "call"]
  f_answers : DefAt K mg "answers" s_answers ["calls"]
  k_Call : Cls K ad.Call
  a_Call_deed : NoAttr K ad.Call "deed"
  a_Call_heads : NoAttr K ad.Call "heads"
  a_Call_listed : NoAttr K ad.Call "listed"
  i_Call : InitAt K mg "Call" ad.Call "Call.__init__" s_Call_init ["self", "deed", "heads", "listed"]
  k_Table : Cls K ad.Table
  a_Table_names : NoAttr K ad.Table "names"
  a_Table_rows : NoAttr K ad.Table "rows"
  i_Table : InitAt K mg "Table" ad.Table "Table.__init__" s_Table_init ["self", "names", "rows"]
  k_Taker : Cls K ad.Taker
  a_Taker_numbers : NoAttr K ad.Taker "numbers"
  a_Taker_at : NoAttr K ad.Taker "at"
  a_Taker_good : NoAttr K ad.Taker "good"
  i_Taker : InitAt K mg "Taker" ad.Taker "Taker.__init__" s_Taker_init ["self", "numbers"]
  m_Taker_number : MethAt K ad.Taker "number" "Taker.number" s_Taker_number ["self", "least", "most"]
  m_Taker_word : MethAt K ad.Taker "word" "Taker.word" s_Taker_word ["self"]
  m_Taker_cell : MethAt K ad.Taker "cell" "Taker.cell" s_Taker_cell ["self"]
  m_Taker_headings : MethAt K ad.Taker "headings" "Taker.headings" s_Taker_headings ["self"]
  m_Taker_row : MethAt K ad.Taker "row" "Taker.row" s_Taker_row ["self", "columns"]
  m_Taker_whole : MethAt K ad.Taker "whole" "Taker.whole" s_Taker_whole ["self"]
  k_Piece : Cls K ad.Piece
  a_Piece_place : NoAttr K ad.Piece "place"
  a_Piece_said : NoAttr K ad.Piece "said"
  a_Piece_quoted : NoAttr K ad.Piece "quoted"
  i_Piece : InitAt K mg "Piece" ad.Piece "Piece.__init__" s_Piece_init ["self", "place", "said", "quoted"]
  k_Desk : Cls K ad.Desk
  a_Desk_sides : NoAttr K ad.Desk "sides"
  i_Desk : InitAt K mg "Desk" ad.Desk "Desk.__init__" s_Desk_init ["self"]
  m_Desk_table : MethAt K ad.Desk "table" "Desk.table" s_Desk_table ["self", "side"]
  m_Desk_keep : MethAt K ad.Desk "keep" "Desk.keep" s_Desk_keep ["self", "side", "table"]
end Tx
end

section
set_option Elab.async false
set_option linter.all false
set_option maxRecDepth 100000
set_option maxHeartbeats 4000000
namespace Tx
open PySem PySem.Spec PyProof.Rows L2
open Evl (Ex Ev EvL EvU EvT EvA EvO RV)
open VatdfBase (Cell Table)

/-! ### methods, instances made -/
structure Me (P : Program) (w : World) (K : PySem.W.Frag) (mg : Str → Option Value) (base : Heap) (C : Addr) (m : Str) (k : Nat) (ps : List Str) (sp : Sp) : Prop where
  ex : ∃ f fd, FnOk P w K mg base CX0 k f fd ps sp ∧ Meth K C m f ∧ Binds K fd ps []
structure Ini (P : Program) (w : World) (K : PySem.W.Frag) (mg : Str → Option Value) (base : Heap) (x : Str) (C : Addr) (k : Nat) (ps : List Str) (sp : Sp) : Prop where
  ex : ∃ f fd, FnOk P w K mg base CX0 k f fd ps sp ∧ Mk K C f ∧ mg x = some (.ref C) ∧ Binds K fd ps []
section
variable {P : Program} {w : World} {K : PySem.W.Frag} {mg : Str → Option Value} {base : Heap} {C : Addr} {m x qual : Str} {st : Stmt} {N ps : List Str} {k : Nat}
theorem Me.mk' {sp : Sp} (D : MethAt K C m qual st ps) (S : FnScope N ps (defScope st)) (len : ∀ vs H Q E, sp vs H Q E → vs.length = ps.length)
    (body : ∀ (cdv : Value) (f : Addr) (A : Around) (outer : List Env) (s : Shared) (H : Hp) (E : XK), Room k (A.deeper (envOfC qual (defScope st) s.heap.objs.size f cdv)) →
      ∃ t, PSs (cxOf CX0 P w K mg base N qual (defScope st) f cdv A outer s H E).nox (defBody st) t ∧ ∀ vs Q, sp vs H Q E → t { nx := fun _ H' => Q .non H', rt := Q } (start N vs) H) : Me P w K mg base C m (k + 1) ps sp := by
  obtain ⟨f, fd, F, hm, hb⟩ := D.ex
  refine ⟨f, fd, F.ok S len fun cdv A outer s H vs Q E hr h => ?_, hm, hb⟩
  obtain ⟨t, h1, h2⟩ := body cdv f A outer s H E hr
  exact ⟨t, h1, h2 vs Q h⟩
theorem Ini.mk' {sp : Sp} (D : InitAt K mg x C qual st ps) (S : FnScope N ps (defScope st)) (len : ∀ vs H Q E, sp vs H Q E → vs.length = ps.length)
    (body : ∀ (cdv : Value) (f : Addr) (A : Around) (outer : List Env) (s : Shared) (H : Hp) (E : XK), Room k (A.deeper (envOfC qual (defScope st) s.heap.objs.size f cdv)) →
      ∃ t, PSs (cxOf CX0 P w K mg base N qual (defScope st) f cdv A outer s H E).nox (defBody st) t ∧ ∀ vs Q, sp vs H Q E → t { nx := fun _ H' => Q .non H', rt := Q } (start N vs) H) : Ini P w K mg base x C (k + 1) ps sp := by
  obtain ⟨f, fd, F, hm, hx, hb⟩ := D.ex
  refine ⟨f, fd, F.ok S len fun cdv A outer s H vs Q E hr h => ?_, hm, hx, hb⟩
  obtain ⟨t, h1, h2⟩ := body cdv f A outer s H E hr
  exact ⟨t, h1, h2 vs Q h⟩
end
theorem hu65 {k : Nat} {A : Around} (hr : Room k A) : A.units + 65 < cLine := by have := hr.un; omega
section
variable {X : Cx} {x m : Str} {ps : List Str} {k : Nat} {C : Addr} {sp : Sp} {e o : Expr} {es : List Expr} {p pos apos : Pos} {ta : TE} {t : TA}
theorem pe_me {pl : Sem Bool} (F : Me X.prog X.w X.K X.mg X.base C m k ps sp) (c : Cls X.K C) (hr : Room k X.A) (he : PE X o ta) (ha : PA X (e :: es) t)
    (hst : starEach (e :: es) X.env = (false, eval e X.env) :: starEach es X.env := by rfl) (hpl : (backTo pos (starEach es X.env)).any (·.1) = false := by rfl)
    (ht : eval (.Call (.Attribute o m apos) (e :: es) [] pos) X.env = (do
      let ov ← eval o X.env
      standAt apos.atName
      let (f, first) ← holding [ov] (getMethod ov m pl)
      callWith pos f first (backTo pos (starEach (e :: es) X.env)) (backToKw pos (keywordEach [] X.env))) := by rfl) : PE X (.Call (.Attribute o m apos) (e :: es) [] pos) (tMeth C m sp [] E0 ta t) := by
  obtain ⟨f, fd, F, hm, hb⟩ := F.ex
  exact pe_meth he c hm F hr hb .nil pass0 ha hst hpl ht
theorem pe_me0 {pl : Sem Bool} (F : Me X.prog X.w X.K X.mg X.base C m k ps sp) (c : Cls X.K C) (hr : Room k X.A) (he : PE X o ta)
    (ht : eval (.Call (.Attribute o m apos) [] [] pos) X.env = (do
      let ov ← eval o X.env
      standAt apos.atName
      let (f, first) ← holding [ov] (getMethod ov m pl)
      callWith pos f first (backTo pos (starEach [] X.env)) (backToKw pos (keywordEach [] X.env))) := by rfl) : PE X (.Call (.Attribute o m apos) [] [] pos) (tMeth C m sp [] E0 ta tNil) := by
  obtain ⟨f, fd, F, hm, hb⟩ := F.ex
  exact pe_meth0 he c hm F hr hb .nil pass0 ht
theorem pe_new (F : Ini X.prog X.w X.K X.mg X.base x C k ps sp) (hr : Room (k + 1) X.A) (ha : PA X (e :: es) t) (hg : Gl X x := by rfl) (hdb : (x == ("__debug__" : Str)) = false := by decide)
    (he : starEach (e :: es) X.env = (false, eval e X.env) :: starEach es X.env := by rfl) (hpl : (backTo pos (starEach es X.env)).any (·.1) = false := by rfl) : PE X (.Call (.Name x p) (e :: es) [] pos) (tMake C sp [] E0 t) := by
  obtain ⟨f, fd, F, hm, hx, hb⟩ := F.ex
  exact pe_make hm F hr hg hx hb .nil pass0 ha hdb he hpl
theorem pe_new0 (F : Ini X.prog X.w X.K X.mg X.base x C k ps sp) (hr : Room (k + 1) X.A) (hg : Gl X x := by rfl) (hdb : (x == ("__debug__" : Str)) = false := by decide) : PE X (.Call (.Name x p) [] [] pos) (tMake C sp [] E0 tNil) := by
  obtain ⟨f, fd, F, hm, hx, hb⟩ := F.ex
  exact pe_make0 hm F hr hg hx hb .nil pass0 hdb
end

/-! ### readings -/
section
variable {K : PySem.W.Frag} {σ : L2.St} {H H' : Hp} {ta tb tc te tx : TE} {t u : TT} {x y z v : V} {r r' : R2} {P P' R : V → Hp → Prop}
theorem ev_chain {b1 b2 : Bool} (ha : Ev ta σ H x) (hb : Ev tb σ H y) (hc : b1 = true → Ev tc σ H z) (h1 : RV r x y H (.bl b1)) (h2 : b1 = true → RV r' y z H (.bl b2)) : Ev (tChain r r' ta tb tc) σ H (.bl (b1 && b2)) := fun H1 e Q q =>
  ha H1 e _ fun H2 e2 => hb H2 (e.trans e2) _ fun H3 e3 => h1 H3 ((e.trans e2).trans e3) _ fun H4 e4 => ⟨b1, rfl, by
    cases b1 with
    | true =>
      show tc σ H4 _
      exact hc rfl H4 (((e.trans e2).trans e3).trans e4) _ fun H5 e5 => h2 rfl H5 ((((e.trans e2).trans e3).trans e4).trans e5) Q fun H6 e6 => q H6 (((((e2.trans e3).trans e4)).trans e5).trans e6)
    | false =>
      show Q (.bl false) H4
      exact q H4 ((e2.trans e3).trans e4)⟩
/-- a <= b <= c -/
theorem ev_leLe {i j l : Int} (ha : Ev ta σ H (.int i)) (hb : Ev tb σ H (.int j)) (hc : Ev tc σ H (.int l)) : Ev (tChain (rI0 fun i j => .bl (decide (i ≤ j))) (rI0 fun i j => .bl (decide (i ≤ j))) ta tb tc) σ H (.bl (decide (i ≤ j) && decide (j ≤ l))) :=
  ev_chain ha hb (fun _ => hc) Evl.rv_I0 fun _ => Evl.rv_I0
theorem ev_leLt {i j l : Int} (ha : Ev ta σ H (.int i)) (hb : Ev tb σ H (.int j)) (hc : Ev tc σ H (.int l)) : Ev (tChain (rI0 fun i j => .bl (decide (i ≤ j))) (rI0 fun i j => .bl (decide (i < j))) ta tb tc) σ H (.bl (decide (i ≤ j) && decide (j < l))) :=
  ev_chain ha hb (fun _ => hc) Evl.rv_I0 fun _ => Evl.rv_I0
theorem ev_fld {a C dx : Addr} {fs : List (Str × V)} {f : Str} (ha : Ev ta σ H (.ref a)) (ho : H a = some (.ins C dx fs)) (c : Cls K C) (n : NoAttr K C f) (l : fs.lookup f = some v) : Ev (tFld K ta f) σ H v := fun H1 e Q q =>
  ha H1 e _ fun H2 e2 => ⟨a, C, dx, fs, v, rfl, (e.trans e2) a _ ho, c, n, l, q H2 e2⟩
theorem ev_eqI {i j : Int} (ha : Ev ta σ H (.int i)) (hb : Ev tb σ H (.int j)) : Ev (tOp rEq ta tb) σ H (.bl (decide (i = j))) := Evl.ev_op ha hb (fun H1 e Q q => ⟨rfl, by
  have e : decide (V.int i = V.int j) = decide (i = j) := by
    by_cases h : i = j <;> simp [h]
  rw [e]
  exact q H1 (Ex.refl H1)⟩)
theorem ev_neI {i j : Int} (ha : Ev ta σ H (.int i)) (hb : Ev tb σ H (.int j)) : Ev (tOp rNe ta tb) σ H (.bl (!decide (i = j))) := Evl.ev_op ha hb (fun H1 e Q q => ⟨rfl, by
  have e : decide (V.int i = V.int j) = decide (i = j) := by
    by_cases h : i = j <;> simp [h]
  rw [e]
  exact q H1 (Ex.refl H1)⟩)
theorem ev_I0 {g : Int → Int → V} {i j : Int} (ha : Ev ta σ H (.int i)) (hb : Ev tb σ H (.int j)) : Ev (tOp (rI0 g) ta tb) σ H (g i j) := Evl.ev_op ha hb Evl.rv_I0
theorem ev_I {C : Int → Int → Prop} {g : Int → Int → V} {i j : Int} (ha : Ev ta σ H (.int i)) (hb : Ev tb σ H (.int j)) (hc : C i j) : Ev (tOp (rI C g) ta tb) σ H (g i j) := Evl.ev_op ha hb (Evl.rv_I hc)
theorem ev_neg {i : Int} (ha : Ev ta σ H (.int i)) : Ev (tUn (rU fun i => .int (-i)) ta) σ H (.int (-i)) := Evl.ev_un ha Evl.ru_neg
theorem ev_ixT {p : Addr} {xs : List V} {i : Int} (ha : Ev ta σ H (.ref p)) (hb : Ev tb σ H (.int i)) (h : SqT K H p xs) (hi : atI xs i = some v) : Ev (tOp (rIxT K) ta tb) σ H v := Evl.ev_op ha hb (Evl.rv_ixT h hi)
theorem ev_ixL {p : Addr} {xs : List V} {i : Int} (ha : Ev ta σ H (.ref p)) (hb : Ev tb σ H (.int i)) (h : SqL K H p xs) (hi : atI xs i = some v) : Ev (tOp (rIxL K) ta tb) σ H v := Evl.ev_op ha hb (Evl.rv_ixL h hi)
/-- len -/
theorem ev_lenG {n : Int} (ha : EvP te σ H (fun v H2 => ∃ p ys, v = .ref p ∧ (SqL K H2 p ys ∨ SqT K H2 p ys) ∧ (ys.length : Int) = n)) :
    Ev (tCB (fun xs H Q => ∃ p ys, xs = [.ref p] ∧ (SqL K H p ys ∨ SqT K H p ys) ∧ Q (.int ys.length) H) (tCons te tNil)) σ H (.int n) := fun H1 e Q q =>
  ha H1 e _ fun v H2 e2 ⟨p, ys, hv, h, hn⟩ => ⟨p, ys, by rw [hv], h, by rw [hn]; exact q H2 e2⟩
theorem ev_lenL {p : Addr} {ys : List V} (ha : Ev te σ H (.ref p)) (h : SqL K H p ys) : Ev (tCB (fun xs H Q => ∃ p ys, xs = [.ref p] ∧ (SqL K H p ys ∨ SqT K H p ys) ∧ Q (.int ys.length) H) (tCons te tNil)) σ H (.int ys.length) := Evl.ev_len ha h
theorem ev_lenT {p : Addr} {ys : List V} (ha : Ev te σ H (.ref p)) (h : SqT K H p ys) : Ev (tCB (fun xs H Q => ∃ p ys, xs = [.ref p] ∧ (SqL K H p ys ∨ SqT K H p ys) ∧ Q (.int ys.length) H) (tCons te tNil)) σ H (.int ys.length) := fun H1 e Q q =>
  ha H1 e _ fun H2 e2 => ⟨p, ys, rfl, .inr (SqT.ex (e.trans e2) h), q H2 e2⟩
/-! list(x), tuple(x) -/
theorem evl_listG {ys : List V} (ha : EvP te σ H (fun v H2 => ∃ p, v = .ref p ∧ (SqL K H2 p ys ∨ SqT K H2 p ys))) :
    EvL (tCB (fun xs H Q => ∃ p ys, xs = [.ref p] ∧ (SqL K H p ys ∨ SqT K H p ys) ∧ ∀ l, H l = none → Q (.ref l) (upd H l (.lst ys))) (tCons te tNil)) σ H ys := fun H1 e Q q =>
  ha H1 e _ fun v H2 e2 ⟨p, hv, h⟩ => ⟨p, ys, by rw [hv], h, fun l hl => q l _ (Evl.fresh_back e2 hl) (e2.trans (Ex.new hl)) upd_same⟩
theorem evl_listT {p : Addr} {ys : List V} (ha : Ev te σ H (.ref p)) (h : SqT K H p ys) : EvL (tCB (fun xs H Q => ∃ p ys, xs = [.ref p] ∧ (SqL K H p ys ∨ SqT K H p ys) ∧ ∀ l, H l = none → Q (.ref l) (upd H l (.lst ys))) (tCons te tNil)) σ H ys :=
  evl_listG fun H1 e Q q => ha H1 e Q fun H2 e2 => q _ H2 e2 ⟨p, rfl, .inr (SqT.ex (e.trans e2) h)⟩
theorem evu_tuple {ys : List V} (ha : EvL te σ H ys) :
    EvU (tCB (fun xs H Q => ∃ p ys, xs = [.ref p] ∧ ((SqL K H p ys ∧ ∀ l, H l = none → Q (.ref l) (upd H l (.tup ys))) ∨ (SqT K H p ys ∧ Q (.ref p) H))) (tCons te tNil)) σ H ys := fun H1 e Q q =>
  ha H1 e _ fun p H2 _ e2 h => ⟨p, ys, rfl, .inl ⟨SqL.of h, fun l hl => q l _ (Evl.fresh_back e2 hl) (e2.trans (Ex.new hl)) upd_same⟩⟩
theorem evp_tupleD {ds : List PyData} (ha : EvF te σ H (fun p H2 => ∃ ys, H2 p = some (.lst ys) ∧ DpAll K H2 ys ds)) :
    EvP (tCB (fun xs H Q => ∃ p ys, xs = [.ref p] ∧ ((SqL K H p ys ∧ ∀ l, H l = none → Q (.ref l) (upd H l (.tup ys))) ∨ (SqT K H p ys ∧ Q (.ref p) H))) (tCons te tNil)) σ H (fun v H2 => Dp K H2 v (.tuple ds)) := fun H1 e Q q =>
  ha H1 e _ fun p H2 _ e2 ⟨ys, h, hd⟩ => ⟨p, ys, rfl, .inl ⟨SqL.of h, fun l hl => q _ _ (e2.trans (Ex.new hl)) (.tup (SqT.of upd_same) (DpAll.ex (Ex.new hl) hd))⟩⟩
/-! xs + ys -/
theorem evl_cat {xs ys : List V} (ha : EvL ta σ H xs) (hb : EvL tb σ H ys) (hz : xs.length + ys.length ≤ sizeLine) : EvL (tOp rCat ta tb) σ H (xs ++ ys) := fun H1 e Q q =>
  ha H1 e _ fun l H2 _ e2 hl => hb H2 (e.trans e2) _ fun b H3 _ e3 hb => ⟨l, b, xs, ys, rfl, rfl, e3 _ _ hl, hb, hz, fun p hp => q p _ (Evl.fresh_back (e2.trans e3) hp) ((e2.trans e3).trans (Ex.new hp)) upd_same⟩
theorem evl_catV {b : Addr} {xs ys : List V} (ha : EvL ta σ H xs) (hb : Ev tb σ H (.ref b)) (h : H b = some (.lst ys)) (hz : xs.length + ys.length ≤ sizeLine) : EvL (tOp rCat ta tb) σ H (xs ++ ys) := fun H1 e Q q =>
  ha H1 e _ fun l H2 _ e2 hl => hb H2 (e.trans e2) _ fun H3 e3 => ⟨l, b, xs, ys, rfl, rfl, e3 _ _ hl, ((e.trans e2).trans e3) _ _ h, hz, fun p hp => q p _ (Evl.fresh_back (e2.trans e3) hp) ((e2.trans e3).trans (Ex.new hp)) upd_same⟩
/-- a tuple and another -/
theorem evp_catA {b : Addr} {xs ys : List V} (ha : EvU ta σ H xs) (hb : Ev tb σ H (.ref b)) (h : SqT K H b ys) (hz : xs.length + ys.length ≤ sizeLine) : EvP (tOp (rCatA K) ta tb) σ H (fun v H2 => ∃ p, v = .ref p ∧ SqT K H2 p (xs ++ ys)) := fun H1 e Q q =>
  ha H1 e _ fun a H2 _ e2 h2 => hb H2 (e.trans e2) _ fun H3 e3 => ⟨a, b, xs, ys, rfl, rfl, SqT.of (e3 _ _ h2), SqT.ex ((e.trans e2).trans e3) h, hz,
    fun hx => q _ H3 (e2.trans e3) ⟨b, rfl, by rw [hx]; exact SqT.ex ((e.trans e2).trans e3) h⟩,
    fun _ hy => q _ H3 (e2.trans e3) ⟨a, rfl, by rw [hy, List.append_nil]; exact SqT.of (e3 _ _ h2)⟩,
    fun _ _ p hp => q _ _ ((e2.trans e3).trans (Ex.new hp)) ⟨p, rfl, SqT.of upd_same⟩⟩
/-! slices -/
theorem evp_slT {tl th : TO} {a : Addr} {xs : List V} {lo hi : Option Int} (h : Ev te σ H (.ref a)) (h1 : EvO tl σ H lo) (h2 : EvO th σ H hi) (hs : SqT K H a xs) : EvP (tSl (rSlA K) te tl th) σ H (fun v H2 => ∃ p, v = .ref p ∧ SqT K H2 p (cutV xs lo hi)) := fun H1 e Q q =>
  h H1 e _ fun H2 e2 => h1 H2 (e.trans e2) _ fun H3 e3 => h2 H3 ((e.trans e2).trans e3) _ fun H4 e4 =>
    ⟨a, xs, rfl, SqT.ex (((e.trans e2).trans e3).trans e4) hs,
      fun ⟨w1, w2⟩ => q _ H4 ((e2.trans e3).trans e4) ⟨a, rfl, by
        have e0 : cutV xs lo hi = xs := by
          unfold cutV
          rw [w1, w2]
          simp
        rw [e0]
        exact SqT.ex (((e.trans e2).trans e3).trans e4) hs⟩,
      fun _ p hp => q _ _ (((e2.trans e3).trans e4).trans (Ex.new hp)) ⟨p, rfl, SqT.of upd_same⟩⟩
theorem evl_sl {tl th : TO} {a : Addr} {xs : List V} {lo hi : Option Int} (h : Ev te σ H (.ref a)) (h1 : EvO tl σ H lo) (h2 : EvO th σ H hi) (hs : SqL K H a xs) : EvL (tSl (rSlL K) te tl th) σ H (cutV xs lo hi) := Evl.el_sl h h1 h2 hs
theorem cut_from {xs : List V} {i : Nat} (h : i ≤ xs.length) : cutV xs (some (i : Int)) none = xs.drop i := by
  unfold cutV
  rw [HT.sIx_nat, HT.sIx_none, Nat.min_eq_left h]
  exact List.take_of_length_le (by rw [List.length_drop]; exact Nat.le_refl _)
theorem cut_to {xs : List V} {j : Nat} (h : j ≤ xs.length) : cutV xs none (some (j : Int)) = xs.take j := by
  unfold cutV
  rw [HT.sIx_nat, HT.sIx_none, Nat.min_eq_left h]
  simp
theorem cut_fromTo {xs : List V} {i j : Nat} (hi : i ≤ xs.length) (hj : j ≤ xs.length) : cutV xs (some (i : Int)) (some (j : Int)) = (xs.drop i).take (j - i) := by
  unfold cutV
  rw [HT.sIx_nat, HT.sIx_nat, Nat.min_eq_left hi, Nat.min_eq_left hj]
/-! all, any, sum -/
theorem ev_all {bs : List Bool} (ha : EvL te σ H (bs.map V.bl)) : Ev (tCB (rAll K) (tCons te tNil)) σ H (.bl (bs.all id)) := fun H1 e Q q =>
  ha H1 e _ fun p H2 _ e2 h => ⟨p, bs, rfl, SqL.of h, q H2 e2⟩
theorem ev_any {bs : List Bool} (ha : EvL te σ H (bs.map V.bl)) : Ev (tCB (rAny K) (tCons te tNil)) σ H (.bl (bs.any id)) := fun H1 e Q q =>
  ha H1 e _ fun p H2 _ e2 h => ⟨p, bs, rfl, SqL.of h, q H2 e2⟩
theorem ev_sum {a : Addr} {ns : List Int} (ha : Ev te σ H (.ref a)) (h : SqL K H a (ns.map V.int)) : Ev (tCB (rSum K) (tCons te tNil)) σ H (.int ns.sum) := fun H1 e Q q =>
  ha H1 e _ fun H2 e2 => ⟨a, ns, rfl, SqL.ex (e.trans e2) h, q H2 e2⟩
theorem ev_max {a : Addr} {ns : List Int} {m : Int} (ha : Ev te σ H (.ref a)) (h : SqL K H a (ns.map V.int)) (h0 : 0 < ns.length) (hm : ∀ x, x ∈ ns → (∀ y, y ∈ ns → y ≤ x) → x = m) : Ev (tCB (rMax K) (tCons te tNil)) σ H (.int m) := fun H1 e Q q =>
  ha H1 e _ fun H2 e2 => ⟨a, ns, rfl, SqL.ex (e.trans e2) h, h0, fun x h1 h2 => by rw [hm x h1 h2]; exact q H2 e2⟩
theorem ev_min {a : Addr} {ns : List Int} {m : Int} (ha : Ev te σ H (.ref a)) (h : SqL K H a (ns.map V.int)) (h0 : 0 < ns.length) (hm : ∀ x, x ∈ ns → (∀ y, y ∈ ns → x ≤ y) → x = m) : Ev (tCB (rMin K) (tCons te tNil)) σ H (.int m) := fun H1 e Q q =>
  ha H1 e _ fun H2 e2 => ⟨a, ns, rfl, SqL.ex (e.trans e2) h, h0, fun x h1 h2 => by rw [hm x h1 h2]; exact q H2 e2⟩
/-! in, not in: whole numbers -/
theorem inV_ints (z : Int) (ns : List Int) : inV (.int z) (ns.map V.int) = ns.contains z := by
  unfold inV
  rw [List.any_map, List.contains_eq_any_beq]
  congr 1
  funext y
  show (y == z) = (z == y)
  rw [Bool.eq_iff_iff, beq_iff_eq, beq_iff_eq]
  exact eq_comm
theorem flat_ints (ns : List Int) : (ns.map V.int).all flatV = true := by
  rw [List.all_map]
  exact List.all_eq_true.mpr fun _ _ => rfl
theorem ev_inT {p : Addr} {z : Int} {ns : List Int} (ha : Ev ta σ H (.int z)) (hb : Ev tb σ H (.ref p)) (h : SqT K H p (ns.map V.int)) : Ev (tOp (rIn K false) ta tb) σ H (.bl (ns.contains z)) :=
  Evl.ev_is (Evl.ev_op ha hb (Evl.rv_isT h rfl (flat_ints ns))) (by rw [inV_ints])
theorem ev_inLP {z : Int} {ns : List Int} (ha : Ev ta σ H (.int z)) (hb : EvL tb σ H (ns.map V.int)) : Ev (tOp (rIn K false) ta tb) σ H (.bl (ns.contains z)) :=
  Evl.ev_opL ha hb fun p H1 h _ => by
    rw [← inV_ints]
    exact Evl.rv_isL (SqL.of h) rfl (flat_ints ns)
/-! == of data -/
theorem ev_eqD {d e : PyData} {b : Bool} (ha : EvP ta σ H (fun v H2 => Dp K H2 v d)) (hb : EvP tb σ H (fun v H2 => Dp K H2 v e)) (s1 : SeqAt.shaped d = true) (s2 : SeqAt.shaped e = true) (h : PyData.eqv d e = b) : Ev (tOp (rEqD K) ta tb) σ H (.bl b) :=
  ev_opP ha mo_dp hb fun x y H1 _ h1 h2 => rv_eqD h1 h2 s1 s2 h
theorem ev_neD {d e : PyData} {b : Bool} (ha : EvP ta σ H (fun v H2 => Dp K H2 v d)) (hb : EvP tb σ H (fun v H2 => Dp K H2 v e)) (s1 : SeqAt.shaped d = true) (s2 : SeqAt.shaped e = true) (h : PyData.eqv d e = b) : Ev (tOp (rNeD K) ta tb) σ H (.bl (!b)) :=
  ev_opP ha mo_dp hb fun x y H1 _ h1 h2 => rv_neD h1 h2 s1 s2 h
theorem ev_inD {d : PyData} {ds : List PyData} {b : Bool} (ha : EvP ta σ H (fun v H2 => Dp K H2 v d)) (hb : EvP tb σ H (fun v H2 => Dp K H2 v (.list ds))) (s1 : SeqAt.shaped d = true) (s2 : SeqAt.shaped (.list ds) = true) (h : (ds.any fun z => PyData.eqv z d) = b) : Ev (tOp (rInD K) ta tb) σ H (.bl b) :=
  ev_opP ha mo_dp hb fun x y H1 _ h1 h2 => rv_inD h1 h2 s1 s2 h
theorem ev_niD {d : PyData} {ds : List PyData} {b : Bool} (ha : EvP ta σ H (fun v H2 => Dp K H2 v d)) (hb : EvP tb σ H (fun v H2 => Dp K H2 v (.list ds))) (s1 : SeqAt.shaped d = true) (s2 : SeqAt.shaped (.list ds) = true) (h : (ds.any fun z => PyData.eqv z d) = b) : Ev (tOp (rNotInD K) ta tb) σ H (.bl (!b)) :=
  ev_opP ha mo_dp hb fun x y H1 _ h1 h2 => rv_niD h1 h2 s1 s2 h
theorem ev_isN {b : Bool} (ha : Ev ta σ H x) (h : decide (x = .non) = b) : Ev (tOp (fun x y H Q => y = .non ∧ Q (.bl (decide (x = .non))) H) ta (tC .non)) σ H (.bl b) :=
  Evl.ev_op ha Evl.ev_c fun H1 _ Q q => ⟨rfl, by rw [h]; exact q H1 (Ex.refl H1)⟩
theorem et_yes : EvT tYes σ H true := fun H1 _ Q q => q H1 (Ex.refl H1)
theorem ev_bool {a b : Bool} (h : Ev te σ H (.bl a)) (e : a = b) : Ev te σ H (.bl b) := by rw [← e]; exact h
theorem ev_int {a b : Int} (h : Ev te σ H (.int a)) (e : a = b) : Ev te σ H (.int b) := by rw [← e]; exact h
/-! ### statements -/
variable {D : Ends} {tz tu : TS}
theorem s_ext {l : Addr} {xs zs : List V} (hl : H l = some (.lst xs)) (ha : Ev ta σ H (.ref l)) (h : EvP te σ H (fun v H2 => ∃ b, v = .ref b ∧ H2 b = some (.lst zs))) (hz : xs.length + zs.length ≤ sizeLine) (k : ∀ H1, Ex H H1 → D.nx σ (upd H1 l (.lst (xs ++ zs)))) :
    tDrop (tBM K "list" rExtend ta (tCons te tNil)) D σ H := ha H (Ex.refl H) _ fun H1 e1 =>
  ⟨Or.inl ⟨rfl, xs, SqL.of (e1 l _ hl)⟩, h H1 e1 _ fun v H2 e2 ⟨b, hv, hb⟩ => ⟨l, b, xs, zs, rfl, by rw [hv], e2 l _ (e1 l _ hl), hb, hz, k H2 (e1.trans e2)⟩⟩
theorem q_ext {l : Addr} {xs zs : List V} (hl : H l = some (.lst xs)) (ha : Ev ta σ H (.ref l)) (h : EvP te σ H (fun v H2 => ∃ b, v = .ref b ∧ H2 b = some (.lst zs))) (hz : xs.length + zs.length ≤ sizeLine) (k : ∀ H1, Ex H H1 → tz D σ (upd H1 l (.lst (xs ++ zs)))) :
    tSeq (tDrop (tBM K "list" rExtend ta (tCons te tNil))) tz D σ H := s_ext (D := { D with nx := tz D }) hl ha h hz k
theorem s_appP {l : Addr} {xs : List V} (hl : H l = some (.lst xs)) (ha : Ev ta σ H (.ref l)) (h : EvP te σ H P) (hz : xs.length < sizeLine) (k : ∀ v H1, Ex H H1 → P v H1 → D.nx σ (upd H1 l (.lst (xs ++ [v])))) :
    tDrop (tBM K "list" rAppend ta (tCons te tNil)) D σ H := ha H (Ex.refl H) _ fun H1 e1 =>
  ⟨Or.inl ⟨rfl, xs, SqL.of (e1 l _ hl)⟩, h H1 e1 _ fun v H2 e2 p => ⟨l, xs, v, rfl, rfl, e2 l _ (e1 l _ hl), hz, k v H2 (e1.trans e2) p⟩⟩
theorem q_appP {l : Addr} {xs : List V} (hl : H l = some (.lst xs)) (ha : Ev ta σ H (.ref l)) (h : EvP te σ H P) (hz : xs.length < sizeLine) (k : ∀ v H1, Ex H H1 → P v H1 → tz D σ (upd H1 l (.lst (xs ++ [v])))) :
    tSeq (tDrop (tBM K "list" rAppend ta (tCons te tNil))) tz D σ H := s_appP (D := { D with nx := tz D }) hl ha h hz k
end
theorem src_L {K : PySem.W.Frag} {te : TE} {σ : L2.St} {H : Hp} {a : Addr} {xs : List V} (h : Ev te σ H (.ref a)) (hx : SqL K H a xs) : EvP te σ H (fun v H2 => ∃ a, v = .ref a ∧ SqL K H2 a xs) := fun H1 e Q q => h H1 e Q fun H2 e2 => q _ H2 e2 ⟨a, rfl, SqL.ex (e.trans e2) hx⟩
theorem src_T {K : PySem.W.Frag} {te : TE} {σ : L2.St} {H : Hp} {a : Addr} {xs : List V} (h : Ev te σ H (.ref a)) (hx : SqT K H a xs) : EvP te σ H (fun v H2 => ∃ a, v = .ref a ∧ SqT K H2 a xs) := fun H1 e Q q => h H1 e Q fun H2 e2 => q _ H2 e2 ⟨a, rfl, SqT.ex (e.trans e2) hx⟩
theorem evl_P {te : TE} {σ : L2.St} {H : Hp} {zs : List V} (h : EvL te σ H zs) : EvP te σ H (fun v H2 => ∃ b, v = .ref b ∧ H2 b = some (.lst zs)) := fun H1 e Q q => h H1 e Q fun p H2 _ e2 hp => q _ H2 e2 ⟨p, rfl, hp⟩
end Tx
end

section
set_option Elab.async false
set_option linter.all false
set_option maxRecDepth 100000
set_option maxHeartbeats 4000000
namespace Tx
open PySem PySem.Spec PyProof.Rows L2
open Evl (Ex Ev EvL EvU EvT EvA EvO RV)
open VatdfBase (Cell Table)

/-! ### comprehensions over a typed list -/
theorem take_succ_get {α : Type} : ∀ {l : List α} {i : Nat} {a : α}, l[i]? = some a → l.take (i + 1) = l.take i ++ [a]
  | [], i, a, h => by simp at h
  | b :: l, 0, a, h => by
    simp at h
    subst h
    rfl
  | b :: l, i + 1, a, h => by
    have ih := take_succ_get (l := l) (i := i) (a := a) (by simpa using h)
    show b :: l.take (i + 1) = b :: l.take i ++ [a]
    rw [ih]
    rfl
theorem get_map {α β : Type} {l : List α} {g : α → β} {i : Nat} {x : β} (h : (l.map g)[i]? = some x) : ∃ a, l[i]? = some a ∧ g a = x := by
  rw [List.getElem?_map] at h
  cases e : l[i]? with
  | none => rw [e] at h; cases h
  | some a => rw [e] at h; exact ⟨a, rfl, Option.some.inj h⟩
section
variable {K : PySem.W.Frag} {σ : L2.St} {H H' : Hp} {te tl : TE} {tt : TT} {α : Type} {j : Nat} {vs : List Nat}
def CwF (H : Hp) (l : List α) (p : α → Bool) (f : α → V) (Dl : Addr) (i : Nat) (H' : Hp) : Prop := H Dl = none ∧ Ex H H' ∧ H' Dl = some (.lst (((l.take i).filter p).map f))
theorem cwF_turn {l : List α} {p : α → Bool} {f : α → V} {Dl : Addr} {i : Nat} {a : α} {σ2 : L2.St} (c : CwF H l p f Dl i H') (hi : l[i]? = some a) (hz : l.length ≤ 100000) (ht : EvT tt σ2 H (p a)) (he : p a = true → Ev te σ2 H (f a)) :
    tt σ2 H' fun b H3 => if b = true then te σ2 H3 fun y H4 => ∃ acc, H4 Dl = some (.lst acc) ∧ acc.length < sizeLine ∧ CwF H l p f Dl (i + 1) (upd H4 Dl (.lst (acc ++ [y]))) else CwF H l p f Dl (i + 1) H3 := by
  obtain ⟨p1, p2, p3⟩ := c
  have hlt := (List.getElem?_eq_some_iff.mp hi).1
  refine ht H' p2 _ fun H3 e3 => ?_
  cases hf : p a with
  | true =>
    show te σ2 H3 fun y H4 => ∃ acc, H4 Dl = some (.lst acc) ∧ acc.length < sizeLine ∧ CwF H l p f Dl (i + 1) (upd H4 Dl (.lst (acc ++ [y])))
    refine he hf H3 (p2.trans e3) _ fun H4 e4 => ⟨_, e4 Dl _ (e3 Dl _ p3), Evl.sz_lt ?_, p1, Ex.mut ((p2.trans e3).trans e4) p1, ?_⟩
    · rw [List.length_map]
      have h1 := List.length_filter_le p (l.take i)
      rw [List.length_take] at h1
      omega
    · rw [upd_same, take_succ_get hi, List.filter_append, List.map_append, List.filter_cons, if_pos hf]
      rfl
  | false =>
    show CwF H l p f Dl (i + 1) H3
    refine ⟨p1, p2.trans e3, ?_⟩
    rw [take_succ_get hi, List.filter_append, List.map_append, List.filter_cons, if_neg (by rw [hf]; decide)]
    rw [List.filter_nil, List.map_nil, List.append_nil]
    exact e3 Dl _ p3
/-- [f for x in xs if p]: values known; over a list -/
theorem evl_lcF (l : List α) (g : α → V) (p : α → Bool) (f : α → V) (h : EvP tl σ H (fun v H2 => ∃ a, v = .ref a ∧ SqL K H2 a (l.map g))) (hz : l.length ≤ 100000) (hw : ∀ x, wipe ((wipe σ vs).set j (some x)) vs = wipe σ vs)
    (ht : ∀ a, a ∈ l → ∀ H1, Ex H H1 → EvT tt ((wipe σ vs).set j (some (g a))) H1 (p a)) (he : ∀ a, a ∈ l → p a = true → ∀ H1, Ex H H1 → Ev te ((wipe σ vs).set j (some (g a))) H1 (f a)) :
    EvL (tLc (iList K tl) (gName j) tt te vs) σ H ((l.filter p).map f) := fun H0 e Q q => h H0 e _ fun v H1 e1 ⟨a, hv, hx⟩ => ⟨a, hv, ⟨_, hx⟩, fun Dl hD =>
  lc_list (xs := l.map g) (CwF H1 l p f Dl) ⟨hD, Ex.new hD, by rw [List.take_zero]; exact upd_same⟩ (fun i H' _ c => SqL.ex c.2.1 hx) (fun i x H' hi c => by
    obtain ⟨b, hb, rfl⟩ := get_map hi
    exact ⟨hw _, cwF_turn c hb hz (ht b (List.mem_of_getElem? hb) H1 (e.trans e1)) (fun hf => he b (List.mem_of_getElem? hb) hf H1 (e.trans e1))⟩)
    (fun H' c => q Dl H' (Evl.fresh_back e1 c.1) (e1.trans c.2.1) (by
      have := c.2.2
      rw [List.length_map, List.take_length] at this
      exact this))⟩
theorem evl_lcFT (l : List α) (g : α → V) (p : α → Bool) (f : α → V) (h : EvP tl σ H (fun v H2 => ∃ a, v = .ref a ∧ SqT K H2 a (l.map g))) (hz : l.length ≤ 100000) (hw : ∀ x, wipe ((wipe σ vs).set j (some x)) vs = wipe σ vs)
    (ht : ∀ a, a ∈ l → ∀ H1, Ex H H1 → EvT tt ((wipe σ vs).set j (some (g a))) H1 (p a)) (he : ∀ a, a ∈ l → p a = true → ∀ H1, Ex H H1 → Ev te ((wipe σ vs).set j (some (g a))) H1 (f a)) :
    EvL (tLc (iTup K tl) (gName j) tt te vs) σ H ((l.filter p).map f) := fun H0 e Q q => h H0 e _ fun v H1 e1 ⟨a, hv, hx⟩ => ⟨a, hv, ⟨_, hx⟩, fun Dl hD =>
  lc_tup (xs := l.map g) (CwF H1 l p f Dl) ⟨hD, Ex.new hD, by rw [List.take_zero]; exact upd_same⟩ (fun i H' _ c => SqT.ex c.2.1 hx) (fun i x H' hi c => by
    obtain ⟨b, hb, rfl⟩ := get_map hi
    exact ⟨hw _, cwF_turn c hb hz (ht b (List.mem_of_getElem? hb) H1 (e.trans e1)) (fun hf => he b (List.mem_of_getElem? hb) hf H1 (e.trans e1))⟩)
    (fun H' c => q Dl H' (Evl.fresh_back e1 c.1) (e1.trans c.2.1) (by
      have := c.2.2
      rw [List.length_map, List.take_length] at this
      exact this))⟩
/-- over range(lo, hi) -/
def rangeL (lo n : Nat) : List Nat := (List.range n).map (lo + ·)
theorem rangeL_get {lo n i : Nat} (h : i < n) : (rangeL lo n)[i]? = some (lo + i) := by
  unfold rangeL
  rw [List.getElem?_map, List.getElem?_range h]
  rfl
theorem rangeL_len {lo n : Nat} : (rangeL lo n).length = n := by
  unfold rangeL
  rw [List.length_map, List.length_range]
theorem evl_lcR2 {ta : TA} (lo n : Nat) (p : Nat → Bool) (f : Nat → V) {hi : Int} (h : EvA ta σ H [.int lo, .int hi]) (hn : (hi - lo).toNat = n) (hb : lo ≤ 100000 ∧ -100000 ≤ hi ∧ hi ≤ 100000) (hz : n ≤ 100000) (hw : ∀ x, wipe ((wipe σ vs).set j (some x)) vs = wipe σ vs)
    (ht : ∀ k, k ∈ rangeL lo n → ∀ H1, Ex H H1 → EvT tt ((wipe σ vs).set j (some (.int (k : Nat)))) H1 (p k)) (he : ∀ k, k ∈ rangeL lo n → p k = true → ∀ H1, Ex H H1 → Ev te ((wipe σ vs).set j (some (.int (k : Nat)))) H1 (f k)) :
    EvL (tLc (iRng2 ta) (gName j) tt te vs) σ H (((rangeL lo n).filter p).map f) := fun H0 e Q q => h H0 e _ fun H1 e1 => ⟨lo, hi, rfl, ⟨by omega, by omega, by omega, by omega⟩, fun Dl hD => by
  rw [hn]
  exact lc_range (lo := lo) (n := n) (CwF H1 (rangeL lo n) p f Dl) ⟨hD, Ex.new hD, by rw [List.take_zero]; exact upd_same⟩ (fun i H' hi c => by
    have hb := rangeL_get (lo := lo) hi
    have e0 : (lo : Int) + (i : Int) = ((lo + i : Nat) : Int) := by omega
    show wipe ((wipe σ vs).set j (some (.int ((lo : Int) + (i : Int))))) vs = wipe σ vs ∧ tt ((wipe σ vs).set j (some (.int ((lo : Int) + (i : Int))))) H' fun b H3 => if b = true then te ((wipe σ vs).set j (some (.int ((lo : Int) + (i : Int))))) H3 fun y H4 => ∃ acc, H4 Dl = some (.lst acc) ∧ acc.length < sizeLine ∧ CwF H1 (rangeL lo n) p f Dl (i + 1) (upd H4 Dl (.lst (acc ++ [y]))) else CwF H1 (rangeL lo n) p f Dl (i + 1) H3
    rw [e0]
    exact ⟨hw _, cwF_turn c hb (by rw [rangeL_len]; exact hz) (ht _ (List.mem_of_getElem? hb) H1 (e.trans e1)) (fun hf => he _ (List.mem_of_getElem? hb) hf H1 (e.trans e1))⟩)
    (fun H' c => q Dl H' (Evl.fresh_back e1 c.1) (e1.trans c.2.1) (by
      have := c.2.2
      rw [List.take_of_length_le (by rw [rangeL_len]; exact Nat.le_refl _)] at this
      exact this))⟩
theorem evl_lcR1 {ta : TA} (n : Nat) (p : Nat → Bool) (f : Nat → V) {hi : Int} (h : EvA ta σ H [.int hi]) (hn : hi.toNat = n) (hb : -100000 ≤ hi ∧ hi ≤ 100000) (hz : n ≤ 100000) (hw : ∀ x, wipe ((wipe σ vs).set j (some x)) vs = wipe σ vs)
    (ht : ∀ k, k < n → ∀ H1, Ex H H1 → EvT tt ((wipe σ vs).set j (some (.int (k : Nat)))) H1 (p k)) (he : ∀ k, k < n → p k = true → ∀ H1, Ex H H1 → Ev te ((wipe σ vs).set j (some (.int (k : Nat)))) H1 (f k)) :
    EvL (tLc (iRng1 ta) (gName j) tt te vs) σ H (((List.range n).filter p).map f) := fun H0 e Q q => h H0 e _ fun H1 e1 => ⟨hi, rfl, by omega, by omega, fun Dl hD => by
  rw [hn]
  exact lc_range (lo := 0) (n := n) (CwF H1 (List.range n) p f Dl) ⟨hD, Ex.new hD, by rw [List.take_zero]; exact upd_same⟩ (fun i H' hi c => by
    have hb : (List.range n)[i]? = some i := List.getElem?_range hi
    have e0 : (0 : Int) + (i : Int) = (i : Int) := Int.zero_add _
    show wipe ((wipe σ vs).set j (some (.int ((0 : Int) + (i : Int))))) vs = wipe σ vs ∧ tt ((wipe σ vs).set j (some (.int ((0 : Int) + (i : Int))))) H' fun b H3 => if b = true then te ((wipe σ vs).set j (some (.int ((0 : Int) + (i : Int))))) H3 fun y H4 => ∃ acc, H4 Dl = some (.lst acc) ∧ acc.length < sizeLine ∧ CwF H1 (List.range n) p f Dl (i + 1) (upd H4 Dl (.lst (acc ++ [y]))) else CwF H1 (List.range n) p f Dl (i + 1) H3
    rw [e0]
    exact ⟨hw _, cwF_turn c hb (by rw [List.length_range]; exact hz) (ht _ hi H1 (e.trans e1)) (fun hf => he _ hi hf H1 (e.trans e1))⟩)
    (fun H' c => q Dl H' (Evl.fresh_back e1 c.1) (e1.trans c.2.1) (by
      have := c.2.2
      rw [List.take_of_length_le (by rw [List.length_range]; exact Nat.le_refl _)] at this
      exact this))⟩
/-! without a test -/
theorem filter_all (l : List α) : l.filter (fun _ => true) = l := List.filter_eq_self.mpr fun _ _ => rfl
theorem evl_lcM (l : List α) (g : α → V) (f : α → V) (h : EvP tl σ H (fun v H2 => ∃ a, v = .ref a ∧ SqL K H2 a (l.map g))) (hz : l.length ≤ 100000) (hw : ∀ x, wipe ((wipe σ vs).set j (some x)) vs = wipe σ vs)
    (he : ∀ a, a ∈ l → ∀ H1, Ex H H1 → Ev te ((wipe σ vs).set j (some (g a))) H1 (f a)) : EvL (tLc (iList K tl) (gName j) tYes te vs) σ H (l.map f) := by
  have := evl_lcF (K := K) (tt := tYes) (te := te) (tl := tl) (σ := σ) (H := H) (j := j) (vs := vs) l g (fun _ => true) f h hz hw (fun _ _ _ _ => et_yes) (fun a ha _ => he a ha)
  rw [filter_all] at this
  exact this
theorem evl_lcMT (l : List α) (g : α → V) (f : α → V) (h : EvP tl σ H (fun v H2 => ∃ a, v = .ref a ∧ SqT K H2 a (l.map g))) (hz : l.length ≤ 100000) (hw : ∀ x, wipe ((wipe σ vs).set j (some x)) vs = wipe σ vs)
    (he : ∀ a, a ∈ l → ∀ H1, Ex H H1 → Ev te ((wipe σ vs).set j (some (g a))) H1 (f a)) : EvL (tLc (iTup K tl) (gName j) tYes te vs) σ H (l.map f) := by
  have := evl_lcFT (K := K) (tt := tYes) (te := te) (tl := tl) (σ := σ) (H := H) (j := j) (vs := vs) l g (fun _ => true) f h hz hw (fun _ _ _ _ => et_yes) (fun a ha _ => he a ha)
  rw [filter_all] at this
  exact this
/-! a source that is known by what it gives -/
theorem evf_lc_src {S : V → Hp → Prop} {P : Addr → Hp → Prop} {g : TG} (h : EvP tl σ H S) (k : ∀ v H1, Ex H H1 → S v H1 → EvF (tLc (iList K (tC v)) g tt te vs) σ H1 P) : EvF (tLc (iList K tl) g tt te vs) σ H P := fun H0 e Q q =>
  h H0 e _ fun v H1 e1 s => k v H1 (e.trans e1) s H1 (Ex.refl H1) Q fun p H2 n e2 pp => q p H2 (Evl.fresh_back e1 n) (e1.trans e2) pp
end
/-! ### data that lean on no list -/
def Stab (K : PySem.W.Frag) (d : PyData) : Prop := ∀ v H Dl xs zs, H Dl = some (.lst xs) → Dp K H v d → Dp K (upd H Dl (.lst zs)) v d
section
variable {K : PySem.W.Frag}
theorem sqT_upd {H : Hp} {a Dl : Addr} {xs ys zs : List V} (h : H Dl = some (.lst ys)) (s : SqT K H a xs) : SqT K (upd H Dl (.lst zs)) a xs := by
  rcases s with (s | ⟨o, s⟩) | s
  · exact .inl (.inl (by rw [upd_ne (ne_of s h (by intro q; cases q))]; exact s))
  · exact .inl (.inr ⟨o, by rw [upd_ne (ne_of s h (by intro q; cases q))]; exact s⟩)
  · exact .inr s
theorem stab_int (i : Int) : Stab K (.int i) := fun v H Dl xs zs h d => by cases d; exact .int i
theorem stabAll : ∀ {ds : List PyData}, (∀ d ∈ ds, Stab K d) → ∀ {vs : List V} {H : Hp} {Dl : Addr} {xs zs : List V}, H Dl = some (.lst xs) → DpAll K H vs ds → DpAll K (upd H Dl (.lst zs)) vs ds
  | [], _, _, _, _, _, _, _, d => by cases d; exact .nil
  | d :: ds, s, _, _, _, _, _, h, dd => by
    cases dd with
    | cons h1 h2 => exact .cons (s d List.mem_cons_self _ _ _ _ _ h h1) (stabAll (fun e he => s e (List.mem_cons_of_mem _ he)) h h2)
theorem stab_tup {ds : List PyData} (s : ∀ d ∈ ds, Stab K d) : Stab K (.tuple ds) := fun v H Dl xs zs h d => by
  cases d with
  | tup h1 h2 => exact .tup (sqT_upd h h1) (stabAll s h h2)
theorem stab_ints (ns : List Int) : Stab K (.tuple (ns.map .int)) := stab_tup fun d hd => by
  obtain ⟨i, _, rfl⟩ := List.mem_map.mp hd
  exact stab_int i
theorem stab_bD (w : List Nat) : Stab K (bD w) := stab_ints _
theorem stab_cD (c : Cell) : Stab K (cD c) := stab_ints _
theorem stab_rD (r : TRow) : Stab K (rD r) := stab_tup fun d hd => by
  obtain ⟨c, _, rfl⟩ := List.mem_map.mp hd
  exact stab_cD c
theorem stab_map {α : Type} {f : α → PyData} (h : ∀ x, Stab K (f x)) (l : List α) : ∀ d ∈ l.map f, Stab K d := fun d hd => by
  obtain ⟨c, _, rfl⟩ := List.mem_map.mp hd
  exact h c
end
section
variable {K : PySem.W.Frag} {σ : L2.St} {H H' : Hp} {te tl : TE} {tt : TT} {α : Type} {j : Nat} {vs : List Nat}
/-! made things: data of each -/
def CwD (K : PySem.W.Frag) (H : Hp) (l : List α) (d : α → PyData) (Dl : Addr) (i : Nat) (H' : Hp) : Prop := H Dl = none ∧ Ex H H' ∧ ∃ ys, H' Dl = some (.lst ys) ∧ DpAll K H' ys ((l.take i).map d)
theorem cwD_turn {l : List α} {d : α → PyData} (st : ∀ a, Stab K (d a)) {Dl : Addr} {i : Nat} {a : α} {σ2 : L2.St} (c : CwD K H l d Dl i H') (hi : l[i]? = some a) (hz : l.length ≤ 100000) (he : EvP te σ2 H (fun v H2 => Dp K H2 v (d a))) :
    tYes σ2 H' fun b H3 => if b = true then te σ2 H3 fun y H4 => ∃ acc, H4 Dl = some (.lst acc) ∧ acc.length < sizeLine ∧ CwD K H l d Dl (i + 1) (upd H4 Dl (.lst (acc ++ [y]))) else CwD K H l d Dl (i + 1) H3 := by
  obtain ⟨p1, p2, ys, p3, p4⟩ := c
  have hlt := (List.getElem?_eq_some_iff.mp hi).1
  show te σ2 H' fun y H4 => ∃ acc, H4 Dl = some (.lst acc) ∧ acc.length < sizeLine ∧ CwD K H l d Dl (i + 1) (upd H4 Dl (.lst (acc ++ [y])))
  refine he H' p2 _ fun y H4 e4 r => ⟨_, e4 Dl _ p3, Evl.sz_lt ?_, p1, Ex.mut (p2.trans e4) p1, _, upd_same, ?_⟩
  · have := DpAll.len p4
    rw [List.length_map, List.length_take] at this
    omega
  · rw [take_succ_get hi, List.map_append]
    exact DpAll.app (stabAll (stab_map st _) (e4 Dl _ p3) (DpAll.ex e4 p4)) (DpAll.one (st a _ _ _ _ _ (e4 Dl _ p3) r))
theorem evf_lcD (l : List α) (g : α → V) (d : α → PyData) (st : ∀ a, Stab K (d a)) (h : EvP tl σ H (fun v H2 => ∃ a, v = .ref a ∧ SqL K H2 a (l.map g))) (hz : l.length ≤ 100000) (hw : ∀ x, wipe ((wipe σ vs).set j (some x)) vs = wipe σ vs)
    (he : ∀ a, a ∈ l → ∀ H1, Ex H H1 → EvP te ((wipe σ vs).set j (some (g a))) H1 (fun v H2 => Dp K H2 v (d a))) :
    EvF (tLc (iList K tl) (gName j) tYes te vs) σ H (fun p H2 => ∃ ys, H2 p = some (.lst ys) ∧ DpAll K H2 ys (l.map d)) := fun H0 e Q q => h H0 e _ fun v H1 e1 ⟨a, hv, hx⟩ => ⟨a, hv, ⟨_, hx⟩, fun Dl hD =>
  lc_list (xs := l.map g) (CwD K H1 l d Dl) ⟨hD, Ex.new hD, [], upd_same, by rw [List.take_zero]; exact .nil⟩ (fun i H' _ c => SqL.ex c.2.1 hx) (fun i x H' hi c => by
    obtain ⟨b, hb, rfl⟩ := get_map hi
    exact ⟨hw _, cwD_turn st c hb hz (he b (List.mem_of_getElem? hb) H1 (e.trans e1))⟩)
    (fun H' c => q Dl H' (Evl.fresh_back e1 c.1) (e1.trans c.2.1) (by
      have := c.2.2
      rw [List.length_map, List.take_length] at this
      exact this))⟩
theorem evf_lcDT (l : List α) (g : α → V) (d : α → PyData) (st : ∀ a, Stab K (d a)) (h : EvP tl σ H (fun v H2 => ∃ a, v = .ref a ∧ SqT K H2 a (l.map g))) (hz : l.length ≤ 100000) (hw : ∀ x, wipe ((wipe σ vs).set j (some x)) vs = wipe σ vs)
    (he : ∀ a, a ∈ l → ∀ H1, Ex H H1 → EvP te ((wipe σ vs).set j (some (g a))) H1 (fun v H2 => Dp K H2 v (d a))) :
    EvF (tLc (iTup K tl) (gName j) tYes te vs) σ H (fun p H2 => ∃ ys, H2 p = some (.lst ys) ∧ DpAll K H2 ys (l.map d)) := fun H0 e Q q => h H0 e _ fun v H1 e1 ⟨a, hv, hx⟩ => ⟨a, hv, ⟨_, hx⟩, fun Dl hD =>
  lc_tup (xs := l.map g) (CwD K H1 l d Dl) ⟨hD, Ex.new hD, [], upd_same, by rw [List.take_zero]; exact .nil⟩ (fun i H' _ c => SqT.ex c.2.1 hx) (fun i x H' hi c => by
    obtain ⟨b, hb, rfl⟩ := get_map hi
    exact ⟨hw _, cwD_turn st c hb hz (he b (List.mem_of_getElem? hb) H1 (e.trans e1))⟩)
    (fun H' c => q Dl H' (Evl.fresh_back e1 c.1) (e1.trans c.2.1) (by
      have := c.2.2
      rw [List.length_map, List.take_length] at this
      exact this))⟩
/-! made lists: their items -/
def Lsts (H : Hp) : List V → List (List V) → Prop := Paired fun v zs => ∃ b, v = .ref b ∧ H b = some (.lst zs)
theorem paired_mono {α β : Type} {F G : α → β → Prop} : ∀ {l : List α} {ys : List β}, Paired F l ys → (∀ a y, F a y → G a y) → Paired G l ys
  | _, _, .nil, _ => .nil
  | _, _, .cons h t, k => .cons (k _ _ h) (paired_mono t k)
theorem paired_snoc {α β : Type} {F : α → β → Prop} {a : α} {y : β} (h : F a y) : ∀ {l : List α} {ys : List β}, Paired F l ys → Paired F (l ++ [a]) (ys ++ [y])
  | _, _, .nil => .cons h .nil
  | _, _, .cons g t => .cons g (paired_snoc h t)
theorem paired_get {α β : Type} {F : α → β → Prop} : ∀ {l : List α} {ys : List β} {i : Nat} {y : β}, Paired F l ys → ys[i]? = some y → ∃ a, l[i]? = some a ∧ F a y
  | _, _, i, y, .nil, e => by simp at e
  | _, _, 0, y, .cons h t, e => by
    simp at e
    subst e
    exact ⟨_, rfl, h⟩
  | _, _, i + 1, y, .cons h t, e => by
    obtain ⟨a, h1, h2⟩ := paired_get (i := i) t (by simpa using e)
    exact ⟨a, by simpa using h1, h2⟩
theorem Lsts.ex {vs : List V} {zs : List (List V)} (e : Ex H H') (h : Lsts H vs zs) : Lsts H' vs zs := paired_mono h fun _ _ ⟨b, h1, h2⟩ => ⟨b, h1, e _ _ h2⟩
theorem Lsts.len {vs : List V} {zs : List (List V)} (h : Lsts H vs zs) : vs.length = zs.length := Paired.length h
def CwL (H : Hp) (l : List α) (f : α → List V) (Dl : Addr) (i : Nat) (H' : Hp) : Prop := H Dl = none ∧ Ex H H' ∧ ∃ ys, H' Dl = some (.lst ys) ∧ Paired (fun v zs => ∃ b, v = .ref b ∧ b ≠ Dl ∧ H' b = some (.lst zs)) ys ((l.take i).map f)
theorem cwL_turn {l : List α} {f : α → List V} {Dl : Addr} {i : Nat} {a : α} {σ2 : L2.St} (c : CwL H l f Dl i H') (hi : l[i]? = some a) (hz : l.length ≤ 100000) (he : EvL te σ2 H (f a)) :
    tYes σ2 H' fun b H3 => if b = true then te σ2 H3 fun y H4 => ∃ acc, H4 Dl = some (.lst acc) ∧ acc.length < sizeLine ∧ CwL H l f Dl (i + 1) (upd H4 Dl (.lst (acc ++ [y]))) else CwL H l f Dl (i + 1) H3 := by
  obtain ⟨p1, p2, ys, p3, p4⟩ := c
  have hlt := (List.getElem?_eq_some_iff.mp hi).1
  show te σ2 H' fun y H4 => ∃ acc, H4 Dl = some (.lst acc) ∧ acc.length < sizeLine ∧ CwL H l f Dl (i + 1) (upd H4 Dl (.lst (acc ++ [y])))
  refine he H' p2 _ fun y H4 ny e4 hy => ⟨_, e4 Dl _ p3, Evl.sz_lt ?_, p1, Ex.mut (p2.trans e4) p1, _, upd_same, ?_⟩
  · have := Paired.length p4
    rw [List.length_map, List.length_take] at this
    omega
  · rw [take_succ_get hi, List.map_append]
    have hne : y ≠ Dl := fun q => by rw [q, p3] at ny; cases ny
    exact paired_snoc ⟨y, rfl, hne, by rw [upd_ne hne]; exact hy⟩ (paired_mono p4 fun v zs ⟨b, h1, h2, h3⟩ => ⟨b, h1, h2, by rw [upd_ne h2]; exact e4 _ _ h3⟩)
theorem evf_lcL (l : List α) (g : α → V) (f : α → List V) (h : EvP tl σ H (fun v H2 => ∃ a, v = .ref a ∧ SqL K H2 a (l.map g))) (hz : l.length ≤ 100000) (hw : ∀ x, wipe ((wipe σ vs).set j (some x)) vs = wipe σ vs)
    (he : ∀ a, a ∈ l → ∀ H1, Ex H H1 → EvL te ((wipe σ vs).set j (some (g a))) H1 (f a)) :
    EvF (tLc (iList K tl) (gName j) tYes te vs) σ H (fun p H2 => ∃ ys, H2 p = some (.lst ys) ∧ Lsts H2 ys (l.map f)) := fun H0 e Q q => h H0 e _ fun v H1 e1 ⟨a, hv, hx⟩ => ⟨a, hv, ⟨_, hx⟩, fun Dl hD =>
  lc_list (xs := l.map g) (CwL H1 l f Dl) ⟨hD, Ex.new hD, [], upd_same, by rw [List.take_zero]; exact .nil⟩ (fun i H' _ c => SqL.ex c.2.1 hx) (fun i x H' hi c => by
    obtain ⟨b, hb, rfl⟩ := get_map hi
    exact ⟨hw _, cwL_turn c hb hz (he b (List.mem_of_getElem? hb) H1 (e.trans e1))⟩)
    (fun H' c => q Dl H' (Evl.fresh_back e1 c.1) (e1.trans c.2.1) (by
      obtain ⟨_, _, ys, h1, h2⟩ := c
      rw [List.length_map, List.take_length] at h2
      exact ⟨ys, h1, paired_mono h2 fun v zs ⟨b, q1, _, q3⟩ => ⟨b, q1, q3⟩⟩))⟩
theorem evf_lcLT (l : List α) (g : α → V) (f : α → List V) (h : EvP tl σ H (fun v H2 => ∃ a, v = .ref a ∧ SqT K H2 a (l.map g))) (hz : l.length ≤ 100000) (hw : ∀ x, wipe ((wipe σ vs).set j (some x)) vs = wipe σ vs)
    (he : ∀ a, a ∈ l → ∀ H1, Ex H H1 → EvL te ((wipe σ vs).set j (some (g a))) H1 (f a)) :
    EvF (tLc (iTup K tl) (gName j) tYes te vs) σ H (fun p H2 => ∃ ys, H2 p = some (.lst ys) ∧ Lsts H2 ys (l.map f)) := fun H0 e Q q => h H0 e _ fun v H1 e1 ⟨a, hv, hx⟩ => ⟨a, hv, ⟨_, hx⟩, fun Dl hD =>
  lc_tup (xs := l.map g) (CwL H1 l f Dl) ⟨hD, Ex.new hD, [], upd_same, by rw [List.take_zero]; exact .nil⟩ (fun i H' _ c => SqT.ex c.2.1 hx) (fun i x H' hi c => by
    obtain ⟨b, hb, rfl⟩ := get_map hi
    exact ⟨hw _, cwL_turn c hb hz (he b (List.mem_of_getElem? hb) H1 (e.trans e1))⟩)
    (fun H' c => q Dl H' (Evl.fresh_back e1 c.1) (e1.trans c.2.1) (by
      obtain ⟨_, _, ys, h1, h2⟩ := c
      rw [List.length_map, List.take_length] at h2
      exact ⟨ys, h1, paired_mono h2 fun v zs ⟨b, q1, _, q3⟩ => ⟨b, q1, q3⟩⟩))⟩
/-! a typed list out of data -/
theorem dpAll_pairs {β : Type} {d : β → PyData} : ∀ {bs : List β} {vs : List V}, DpAll K H vs (bs.map d) → ∃ l : List (V × β), l.map (·.1) = vs ∧ l.map (·.2) = bs ∧ ∀ p ∈ l, Dp K H p.1 (d p.2)
  | [], vs, h => by
    have h' : DpAll K H vs [] := h
    cases h'
    exact ⟨[], rfl, rfl, by simp⟩
  | b :: bs, vs, h => by
    have h' : DpAll K H vs (d b :: bs.map d) := h
    cases h' with
    | @cons v vs _ _ h1 h2 =>
      obtain ⟨l, e1, e2, e3⟩ := dpAll_pairs h2
      refine ⟨(v, b) :: l, by simp [e1], by simp [e2], ?_⟩
      intro p hp
      rcases List.mem_cons.mp hp with rfl | hp
      · exact h1
      · exact e3 p hp
end
end Tx
/-! ### the rules that a comprehension's block wants: K told -/
namespace Tx
open PySem PySem.Spec PyProof.Rows L2
section
variable {X : Cx}
theorem ix_tupK (K : PySem.W.Frag) (h : X.K = K) : IxR X (rIxT K) := by subst h; exact ix_tup
theorem ix_listK (K : PySem.W.Frag) (h : X.K = K) : IxR X (rIxL K) := by subst h; exact ix_list
theorem op_eqDK (K : PySem.W.Frag) (h : X.K = K) (hu : X.A.units + 64 < cLine) : OpR X (compareOp .Eq) (rEqD K) := by subst h; exact op_eqD hu
theorem op_inSeqK (K : PySem.W.Frag) (h : X.K = K) : OpR X (compareOp .In) (rIn K false) := by subst h; exact op_in_seq
theorem call_list_ofK (K : PySem.W.Frag) (h : X.K = K) : CallR X (.type "list") (fun xs H Q => ∃ p ys, xs = [.ref p] ∧ (SqL K H p ys ∨ SqT K H p ys) ∧ ∀ l, H l = none → Q (.ref l) (upd H l (.lst ys))) := by subst h; exact call_list_of
theorem mt_indexDK (K : PySem.W.Frag) (h : X.K = K) (hu : X.A.units + 65 < cLine) : MtR X "list.index" (rIndexD K) := by subst h; exact mt_indexD hu
theorem pe_fldK (K : PySem.W.Frag) (h : X.K = K) {e : Expr} {f : Str} {pos : Pos} {ta : TE} (he : PE X e ta) (hb : attributeBase e f X.env (eval e X.env) = eval e X.env) : PE X (.Attribute e f pos) (tFld K ta f) := by subst h; exact pe_fld he hb
theorem pe_bmK (K : PySem.W.Frag) (h : X.K = K) {T name id : String} {r : V → List V → Hp → VK → Prop} {to : TE} {t : TA} {o e : Expr} {es : List Expr} {apos cpos : Pos} (pa : PlainAttrs T) (slot : Slot T name id) (hty : typeOf (.builtin id) = pure (.type "method_descriptor")) (hm : MtR X id r) (ho : PE X o to) (ha : PA X (e :: es) t)
    (hbase : attributeBase o name X.env (eval o X.env) = eval o X.env := by rfl)
    (hfew : ((backTo cpos (starEach (e :: es) X.env)).all (fun x => !x.1) && (backToKw cpos (keywordEach [] X.env)).all (fun x => x.1.isSome)
      && decide ((e :: es).length + ([] : List Keyword).length + (if ([] : List Keyword).isEmpty then 0 else 1) < 30)) = true := by rfl)
    (hline : (apos.endLine == cpos.line) = true := by rfl) (hs : starEach (e :: es) X.env = (false, eval e X.env) :: starEach es X.env := by rfl) (hplain : (backTo cpos (starEach es X.env)).any (·.1) = false := by rfl) :
    PE X (.Call (.Attribute o name apos) (e :: es) [] cpos) (tBM K T r to t) := by subst h; exact pe_bm pa slot hty hm ho ha hbase hfew hline hs hplain
end
end Tx
namespace Tx
open PySem PySem.Spec PyProof.Rows L2
open Evl (Ex Ev EvL EvU EvT EvA EvO RV)
/-- a pair of what is known -/
theorem evp_tup2 {σ : L2.St} {H : Hp} {ta tb : TE} {P P' : V → Hp → Prop} (ha : EvP ta σ H P) (m : Mo P) (hb : EvP tb σ H P') (m' : Mo P' := by exact mo_eq) : EvP (tTup (tCons ta (tCons tb tNil))) σ H (fun v H2 => ∃ q x y, v = .ref q ∧ H2 q = some (.tup [x, y]) ∧ P x H2 ∧ P' y H2) := fun H1 e Q q =>
  ha H1 e _ fun x H2 e2 p => hb H2 (e.trans e2) _ fun y H3 e3 p' => ⟨by show 2 ≤ sizeLine; decide, fun r hr =>
    q _ _ ((e2.trans e3).trans (Ex.new hr)) ⟨r, x, y, rfl, upd_same, m _ _ _ (e3.trans (Ex.new hr)) p, m' _ _ _ (Ex.new hr) p'⟩⟩
end Tx
end

section
set_option Elab.async false
set_option linter.all false
set_option maxRecDepth 100000
set_option maxHeartbeats 4000000
namespace Tx
open PySem PySem.W PyProof.Rows

theorem perm_sorted_eq {α : Type} {R : α → α → Prop} : ∀ {l m : List α}, l.Perm m → l.Pairwise R → m.Pairwise R → (∀ a ∈ l, ∀ b ∈ l, R a b → R b a → a = b) → l = m
  | [], m, hp, _, _, _ => (List.nil_perm.mp hp).symm
  | a :: l, [], hp, _, _, _ => absurd hp.length_eq (by simp)
  | a :: l, b :: m, hp, h1, h2, h => by
    have e : a = b := by
      have ha : a ∈ b :: m := hp.mem_iff.mp List.mem_cons_self
      have hb : b ∈ a :: l := hp.mem_iff.mpr List.mem_cons_self
      rcases List.mem_cons.mp ha with q | q
      · exact q
      · rcases List.mem_cons.mp hb with q' | q'
        · exact q'.symm
        · exact h a List.mem_cons_self b hb ((List.pairwise_cons.mp h1).1 b q') ((List.pairwise_cons.mp h2).1 a q)
    subst e
    rw [perm_sorted_eq ((List.perm_cons a).mp hp) (List.pairwise_cons.mp h1).2 (List.pairwise_cons.mp h2).2 fun x hx y hy => h x (List.mem_cons_of_mem _ hx) y (List.mem_cons_of_mem _ hy)]
theorem dataLe_total {β : Type} (enc : β → PyData) : TotalLe (dataLe false enc) := sortLe_total (listOrd itemOrd) false _
theorem dataLe_is {β : Type} (enc : β → PyData) (a b : β) : dataLe false enc a b = !dataLt (enc b) (enc a) := rfl
/-- neither is less: they are equal -/
theorem eqv_of_not_lt {x y : PyData} (h : alike x y = true) (h1 : dataLt x y = false) (h2 : dataLt y x = false) : PyData.eqv x y = true := by
  cases e : PyData.eqv x y with
  | true => rfl
  | false =>
    have ht : keyToks x = keyToks y := (listOrd itemOrd).total _ _ h1 h2
    have h3 := (toks_eqv x y h).2 e [] [Sum.inl 0]
    rw [ht, lex_pre] at h3
    rw [lex_irrefl] at h3
    exact absurd h3 (by decide)
/-- the sorted list, where equal data are equal things -/
theorem sort_is {β : Type} {enc : β → PyData} {l m : List β} (hal : ∀ a b, alike (enc a) (enc b) = true) (hinj : ∀ a b, PyData.eqv (enc a) (enc b) = true → a = b) (hp : m.Perm l) (hs : m.Pairwise fun a b => dataLe false enc a b = true) : l.mergeSort (dataLe false enc) = m := by
  refine perm_sorted_eq ((List.mergeSort_perm _ _).trans hp.symm) (sort_pairwise (dataLe_total enc) l) hs fun a _ b _ h1 h2 => ?_
  rw [dataLe_is] at h1 h2
  exact hinj a b (eqv_of_not_lt (hal a b) (by simpa using h2) (by simpa using h1))
/-- sorted lists are equal just where they are permutations -/
theorem sort_eq_iff {β : Type} {enc : β → PyData} {l m : List β} (hal : ∀ a b, alike (enc a) (enc b) = true) (hinj : ∀ a b, PyData.eqv (enc a) (enc b) = true → a = b) : l.mergeSort (dataLe false enc) = m.mergeSort (dataLe false enc) ↔ l.Perm m := by
  constructor
  · intro h
    exact (List.mergeSort_perm l (dataLe false enc)).symm.trans (by rw [h]; exact List.mergeSort_perm m _)
  · intro h
    exact sort_is hal hinj ((List.mergeSort_perm m _).trans h.symm) (sort_pairwise (dataLe_total enc) m)
theorem eqv_bD_iff (a b : List Nat) : PyData.eqv (bD a) (bD b) = true ↔ a = b := by rw [eqv_bD]; exact decide_eq_true_iff
theorem alike_tupI (a b : List Int) : alike (.tuple (a.map .int)) (.tuple (b.map .int)) = true := by
  rw [alike]
  exact alike_ints a b
theorem alike_bD (a b : List Nat) : alike (bD a) (bD b) = true := alike_tupI _ _
theorem alike_cD (a b : VatdfBase.Cell) : alike (cD a) (cD b) = true := alike_tupI _ _
theorem alikeAll_by {α : Type} {f : α → PyData} (h : ∀ a b, alike (f a) (f b) = true) : ∀ a b : List α, alikeAll (a.map f) (b.map f) = true
  | [], _ => by simp [alikeAll]
  | _ :: _, [] => by simp [alikeAll]
  | x :: a, y :: b => by
    rw [List.map_cons, List.map_cons, alikeAll, alikeAll_by h a b, h]
    rfl
theorem alike_rD (a b : TRow) : alike (rD a) (rD b) = true := by
  unfold rD
  rw [alike]
  exact alikeAll_by alike_cD a b
/-- tuples of whole numbers: the order of lists -/
theorem dataLt_tupI (a b : List Int) : dataLt (.tuple (a.map .int)) (.tuple (b.map .int)) = decide (a < b) := by
  rw [dataLt_tuple]
  exact dataLt_ints a b
end Tx
end

section
set_option Elab.async false
set_option linter.all false
set_option maxRecDepth 100000
set_option maxHeartbeats 4000000
namespace Tx
open PySem PySem.Spec PyProof.Rows L2
open Evl (Ex Ev EvL EvU EvT EvA EvO RV ev_c ev_var ea_nil ea_cons eo_none eo_some)
open VatdfBase (Cell Table)

/-! ### arguments -/
section
variable {α : Type}
def A1 (p : α → V → Hp → Prop) : α → List V → Hp → Prop := fun x vs H => ∃ v, vs = [v] ∧ p x v H
def A2 (p : α → V → V → Hp → Prop) : α → List V → Hp → Prop := fun x vs H => ∃ v u, vs = [v, u] ∧ p x v u H
def A3 (p : α → V → V → V → Hp → Prop) : α → List V → Hp → Prop := fun x vs H => ∃ v u t, vs = [v, u, t] ∧ p x v u t H
theorem lV1 {p : α → V → Hp → Prop} {val : α → V} : ∀ vs H Q E, spV (A1 p) val vs H Q E → vs.length = 1 := fun _ _ _ _ ⟨_, ⟨_, h, _⟩, _⟩ => by rw [h]; rfl
theorem lV2 {p : α → V → V → Hp → Prop} {val : α → V} : ∀ vs H Q E, spV (A2 p) val vs H Q E → vs.length = 2 := fun _ _ _ _ ⟨_, ⟨_, _, h, _⟩, _⟩ => by rw [h]; rfl
theorem lV3 {p : α → V → V → V → Hp → Prop} {val : α → V} : ∀ vs H Q E, spV (A3 p) val vs H Q E → vs.length = 3 := fun _ _ _ _ ⟨_, ⟨_, _, _, h, _⟩, _⟩ => by rw [h]; rfl
theorem lP1 {p : α → V → Hp → Prop} {post : α → V → Hp → Prop} : ∀ vs H Q E, spP (A1 p) post vs H Q E → vs.length = 1 := fun _ _ _ _ ⟨_, ⟨_, h, _⟩, _⟩ => by rw [h]; rfl
theorem lP2 {p : α → V → V → Hp → Prop} {post : α → V → Hp → Prop} : ∀ vs H Q E, spP (A2 p) post vs H Q E → vs.length = 2 := fun _ _ _ _ ⟨_, ⟨_, _, h, _⟩, _⟩ => by rw [h]; rfl
theorem lP3 {p : α → V → V → V → Hp → Prop} {post : α → V → Hp → Prop} : ∀ vs H Q E, spP (A3 p) post vs H Q E → vs.length = 3 := fun _ _ _ _ ⟨_, ⟨_, _, _, h, _⟩, _⟩ => by rw [h]; rfl
theorem lN1 {p : α → V → Hp → Prop} {post : α → Addr → Hp → Prop} : ∀ vs H Q E, spN (A1 p) post vs H Q E → vs.length = 1 := fun _ _ _ _ ⟨_, ⟨_, h, _⟩, _⟩ => by rw [h]; rfl
theorem lN2 {p : α → V → V → Hp → Prop} {post : α → Addr → Hp → Prop} : ∀ vs H Q E, spN (A2 p) post vs H Q E → vs.length = 2 := fun _ _ _ _ ⟨_, ⟨_, _, h, _⟩, _⟩ => by rw [h]; rfl
theorem lN3 {p : α → V → V → V → Hp → Prop} {post : α → Addr → Hp → Prop} : ∀ vs H Q E, spN (A3 p) post vs H Q E → vs.length = 3 := fun _ _ _ _ ⟨_, ⟨_, _, _, h, _⟩, _⟩ => by rw [h]; rfl
end
/-- a new list -/
abbrev spL {α : Type} (pre : α → List V → Hp → Prop) (f : α → List V) : Sp := spN pre fun x p H => H p = some (.lst (f x))
section
variable {α : Type} {σ : L2.St} {H : Hp} {ta : TA} {pre : α → List V → Hp → Prop} {f : α → List V} {vs : List V} {E : XK}
theorem evl_callL (x : α) (ha : EvA ta σ H vs) (hp : ∀ H1, Ex H H1 → pre x vs H1) : EvL (tCall (spL pre f) [] E ta) σ H (f x) := evf_callN (postN := fun x p H => H p = some (.lst (f x))) x ha hp
theorem evl_callLP {PA : List V → Hp → Prop} (x : α) (ha : EvAP ta σ H PA) (hp : ∀ vs H1, Ex H H1 → PA vs H1 → pre x vs H1) : EvL (tCall (spL pre f) [] E ta) σ H (f x) := evf_callNP (postN := fun x p H => H p = some (.lst (f x))) x ha hp
theorem evl_is {xs ys : List V} {te : TE} (h : EvL te σ H xs) (e : xs = ys) : EvL te σ H ys := by rw [← e]; exact h
end
/-- some bytes -/
def isB (K : PySem.W.Frag) (w : List Nat) (v : V) (H : Hp) : Prop := ∃ a, v = .ref a ∧ SqT K H a (nV w)
theorem isB_dp {K : PySem.W.Frag} {w : List Nat} {v : V} {H : Hp} : isB K w v H ↔ Dp K H v (bD w) := dp_bD.symm
theorem nV_len (w : List Nat) : (nV w).length = w.length := by rw [List.length_map, List.length_map]
theorem nV_get {w : List Nat} {i n : Nat} (h : w[i]? = some n) : (nV w)[i]? = some (.int (n : Int)) := by
  rw [List.getElem?_map, List.getElem?_map, h]
  rfl
theorem nV_map (w : List Nat) : nV w = w.map fun (n : Nat) => V.int (n : Int) := by
  unfold nV nI
  rw [List.map_map]
  rfl
theorem isB.ex {K : PySem.W.Frag} {w : List Nat} {v : V} {H H' : Hp} (e : Ex H H') (h : isB K w v H) : isB K w v H' := by
  obtain ⟨a, h1, h2⟩ := h
  exact ⟨a, h1, SqT.ex e h2⟩
section
variable {K : PySem.W.Frag} {σ : L2.St} {H : Hp} {te tl : TE} {j : Nat} {vs : List Nat}
theorem ev_allB {a : Addr} {w : List Nat} (p : Nat → Bool) (h : Ev tl σ H (.ref a)) (hx : SqT K H a (nV w)) (hz : w.length ≤ 100000) (hw : ∀ x, wipe ((wipe σ vs).set j (some x)) vs = wipe σ vs)
    (he : ∀ n ∈ w, ∀ H1, Ex H H1 → Ev te ((wipe σ vs).set j (some (.int (n : Nat)))) H1 (.bl (p n))) : Ev (tCB (rAll K) (tCons (tLc (iTup K tl) (gName j) tYes te vs) tNil)) σ H (.bl (w.all p)) := by
  have h1 := evl_lcMT (K := K) (te := te) (tl := tl) (σ := σ) (H := H) (j := j) (vs := vs) w (fun (n : Nat) => V.int (n : Int)) (fun n => V.bl (p n)) (fun H1 e Q q => h H1 e Q fun H2 e2 => q _ H2 e2 ⟨a, rfl, by rw [← nV_map]; exact SqT.ex (e.trans e2) hx⟩) hz hw he
  have e1 : w.map (fun n => V.bl (p n)) = (w.map p).map V.bl := by rw [List.map_map]; rfl
  rw [e1] at h1
  have h2 := ev_all (K := K) h1
  rw [List.all_map] at h2
  exact h2
theorem et_val {b : Bool} (h : Ev te σ H (.bl b)) : EvT (tB te) σ H b := Evl.et_B h
end
theorem cast_le (a b : Nat) : decide ((a : Int) ≤ (b : Int)) = decide (a ≤ b) := decide_eq_decide.mpr (by omega)
theorem cast_lt (a b : Nat) : decide ((a : Int) < (b : Int)) = decide (a < b) := decide_eq_decide.mpr (by omega)
theorem cast_eq (a b : Nat) : decide ((a : Int) = (b : Int)) = decide (a = b) := decide_eq_decide.mpr (by omega)
theorem len18 (n : Nat) : (decide ((1 : Int) ≤ (n : Int)) && decide ((n : Int) ≤ 8)) = (decide (1 ≤ n) && decide (n ≤ 8)) := by
  rw [Bool.eq_iff_iff]
  simp only [Bool.and_eq_true, decide_eq_true_eq]
  omega
def isSeen (b : Nat) : Bool := decide (32 ≤ b) && decide (b ≤ 126)
section
variable {P : Program} {w : World} {K : PySem.W.Frag} {mg : Str → Option Value} {base : Heap} {ad : Ads}
theorem fn_is_digit (T : Tops K mg ad) : Fn P w K mg base "is_digit" 1 ["byte"] (spV (A1 fun (n : Nat) v _ => v = .int n) fun n => .bl (VatdfBase.isDigit n)) := by
  refine Fn.mk' T.f_is_digit sc_is_digit lV1 fun cdv f A outer s H E hr => ⟨_, (pss_one (ps_ret (pe_chain op_le op_le pe_int (pv 0) pe_int))), ?_⟩
  rintro vs Q ⟨n, ⟨v, rfl, rfl⟩, k⟩
  exact Evl.s_ret (ev_bool (ev_leLe ev_c (ev_var rfl) ev_c) (by unfold VatdfBase.isDigit; rw [Bool.eq_iff_iff]; simp only [Bool.and_eq_true, decide_eq_true_eq]; omega)) k
theorem fn_is_small (T : Tops K mg ad) : Fn P w K mg base "is_small" 1 ["byte"] (spV (A1 fun (n : Nat) v _ => v = .int n) fun n => .bl (VatdfBase.isSmall n)) := by
  refine Fn.mk' T.f_is_small sc_is_small lV1 fun cdv f A outer s H E hr => ⟨_, (pss_one (ps_ret (pe_chain op_le op_le pe_int (pv 0) pe_int))), ?_⟩
  rintro vs Q ⟨n, ⟨v, rfl, rfl⟩, k⟩
  exact Evl.s_ret (ev_bool (ev_leLe ev_c (ev_var rfl) ev_c) (by unfold VatdfBase.isSmall; rw [Bool.eq_iff_iff]; simp only [Bool.and_eq_true, decide_eq_true_eq]; omega)) k
theorem fn_is_seen (T : Tops K mg ad) : Fn P w K mg base "is_seen" 1 ["byte"] (spV (A1 fun (n : Nat) v _ => v = .int n) fun n => .bl (isSeen n)) := by
  refine Fn.mk' T.f_is_seen sc_is_seen lV1 fun cdv f A outer s H E hr => ⟨_, (pss_one (ps_ret (pe_chain op_le op_le pe_int (pv 0) pe_int))), ?_⟩
  rintro vs Q ⟨n, ⟨v, rfl, rfl⟩, k⟩
  exact Evl.s_ret (ev_bool (ev_leLe ev_c (ev_var rfl) ev_c) (by unfold isSeen; rw [Bool.eq_iff_iff]; simp only [Bool.and_eq_true, decide_eq_true_eq]; omega)) k
theorem fn_is_word (T : Tops K mg ad) : Fn P w K mg base "is_word" 2 ["said"] (spV (A1 fun (u : List Nat) v H => u.length ≤ 2000 ∧ isB K u v H) fun u => .bl (VatdfBase.isWord u)) := by
  refine Fn.mk' T.f_is_word sc_is_word lV1 fun cdv f A outer s H E hr => ⟨_, (pss_one (ps_ret (pe_and (pe_chain op_le op_le pe_int (pe_callB call_len_seq (by rfl) T.b_len PySem.boot_len (pa_cons (pv 0) pa_nil)) pe_int) (pe_one (pe_callB (cr_all rfl) (by rfl) T.b_all (by decide +kernel) (pa_cons (pe_lc (own := [("byte", 1)]) (g := gName 1) (tt := tYes) rfl sc_is_word.nd (pi_tup (pv 0)) (blkOk_by (N := ["said", "byte"]) (sc := defScope s_is_word) (by decide +kernel)) (fun _ _ _ _ _ => pg_name (i := 1) sc_is_word.nd rfl (Or.inl rfl)) (fun _ _ _ _ _ => pts_nil) (fun _ _ _ _ _ => (pe_fn (fn_is_seen T) (hr.mono (by decide)) (pa_cons (pv 1) pa_nil)))) pa_nil)))))), ?_⟩
  rintro vs Q ⟨u, ⟨v, rfl, hz, a, rfl, ha⟩, k⟩
  refine Evl.s_ret (ev_bool (Evl.ev_andV (ev_leLe ev_c (ev_lenT (ev_var rfl) ha) ev_c) fun _ => ev_allB isSeen (ev_var rfl) ha (by omega) (fun _ => rfl) fun n _ H1 _ => ev_callV n (ea_cons (ev_var rfl) ea_nil) fun _ _ => ⟨_, rfl, rfl⟩) ?_) k
  rw [nV_len]
  unfold VatdfBase.isWord VatdfBase.WORD
  rw [len18, Bool.and_assoc]
  rfl
/-- a name: the head -/
theorem isName_eq (u : List Nat) (n : Nat) (h : u[0]? = some n) : VatdfBase.isName u = (decide (u.length ≤ 8) && (VatdfBase.isSmall n && u.all fun b => VatdfBase.isSmall b || VatdfBase.isDigit b)) := by
  cases u with
  | nil => simp at h
  | cons m r =>
    simp at h
    subst h
    rfl
theorem fn_is_name (T : Tops K mg ad) : Fn P w K mg base "is_name" 2 ["said"] (spV (A1 fun (u : List Nat) v H => u.length ≤ 2000 ∧ isB K u v H) fun u => .bl (VatdfBase.isName u)) := by
  refine Fn.mk' T.f_is_name sc_is_name lV1 fun cdv f A outer s H E hr => ⟨_, (pss_cons (ps_if (pt_not (pt_chain op_le op_le pe_int (pe_callB call_len_seq (by rfl) T.b_len PySem.boot_len (pa_cons (pv 0) pa_nil)) pe_int)) (pss_one (ps_ret pe_bl)) pss_nil)
      (pss_cons (ps_if (pt_not (pt_val (pe_fn (fn_is_small T) (hr.mono (by decide)) (pa_cons (pe_ix ix_tup (pv 0) pe_int (fun _ _ => rfl)) pa_nil)))) (pss_one (ps_ret pe_bl)) pss_nil)
      (pss_one (ps_ret (pe_callB (cr_all rfl) (by rfl) T.b_all (by decide +kernel) (pa_cons (pe_lc (own := [("byte", 1)]) (g := gName 1) (tt := tYes) rfl sc_is_name.nd (pi_tup (pv 0)) (blkOk_by (N := ["said", "byte"]) (sc := defScope s_is_name) (by decide +kernel)) (fun _ _ _ _ _ => pg_name (i := 1) sc_is_name.nd rfl (Or.inl rfl)) (fun _ _ _ _ _ => pts_nil) (fun _ _ _ _ _ => (pe_or (pe_fn (fn_is_small T) (hr.mono (by decide)) (pa_cons (pv 1) pa_nil)) (pe_one (pe_fn (fn_is_digit T) (hr.mono (by decide)) (pa_cons (pv 1) pa_nil)))))) pa_nil)))))), ?_⟩
  rintro vs Q ⟨u, ⟨v, rfl, hz, a, rfl, ha⟩, k⟩
  refine Evl.q_when (Evl.et_not (Evl.et_test (ev_leLe ev_c (ev_lenT (ev_var rfl) ha) ev_c))) (fun hb H1 e1 => ?_) fun hb H1 e1 => ?_
  · refine Evl.s_ret (ev_bool ev_c ?_) fun H2 e2 => k H2 (e1.trans e2)
    rw [nV_len, Bool.not_eq_true', len18] at hb
    cases u with
    | nil => rfl
    | cons n r =>
      have h8 : decide ((n :: r).length ≤ 8) = false := by simpa using hb
      unfold VatdfBase.isName VatdfBase.NAME
      rw [h8]
      rfl
  · rw [nV_len, Bool.not_eq_false', len18, Bool.and_eq_true, decide_eq_true_eq, decide_eq_true_eq] at hb
    obtain ⟨n, hn⟩ : ∃ n, u[0]? = some n := ⟨u[0], List.getElem?_eq_getElem (by omega)⟩
    have ha1 := SqT.ex e1 ha
    have e8 : decide (u.length ≤ 8) = true := decide_eq_true hb.2
    refine Evl.q_when (Evl.et_not (et_val (ev_callV n (ea_cons (ev_ixT (ev_var rfl) ev_c ha1 (atI_nat (j := 0) (nV_get hn))) ea_nil) fun _ _ => ⟨_, rfl, rfl⟩))) (fun hc H2 e2 => ?_) fun hc H2 e2 => ?_
    · refine Evl.s_ret (ev_bool ev_c ?_) fun H3 e3 => k H3 ((e1.trans e2).trans e3)
      rw [Bool.not_eq_true'] at hc
      rw [isName_eq u n hn, hc, Bool.false_and, Bool.and_false]
    · rw [Bool.not_eq_false'] at hc
      refine Evl.s_ret (ev_bool (ev_allB (fun b => VatdfBase.isSmall b || VatdfBase.isDigit b) (ev_var rfl) (SqT.ex e2 ha1) (by omega) (fun _ => rfl) fun n _ H1 _ =>
        Evl.ev_orV (ev_callV n (ea_cons (ev_var rfl) ea_nil) fun _ _ => ⟨_, rfl, rfl⟩) fun _ => ev_callV n (ea_cons (ev_var rfl) ea_nil) fun _ _ => ⟨_, rfl, rfl⟩) ?_) fun H3 e3 => k H3 ((e1.trans e2).trans e3)
      rw [isName_eq u n hn, hc, e8, Bool.true_and, Bool.true_and]
theorem fn_digits_from (T : Tops K mg ad) : Fn P w K mg base "digits_from" 1 ["said"] (spV (A1 fun (u : List Nat) v H => u.length ≤ 2000 ∧ isB K u v H) fun u => .int (digitsFrom u : Nat)) := by
  refine Fn.mk' T.f_digits_from sc_digits_from lV1 fun cdv f A outer s H E hr => ⟨_, (pss_cons (ps_if (PW.pt (pw_and (pt_cmpR op_gt (pe_callB call_len_seq (by rfl) T.b_len PySem.boot_len (pa_cons (pv 0) pa_nil)) pe_int (nomark _)) (pw_and1 (pt_cmpR op_eq (pe_ix ix_tup (pv 0) pe_int (fun _ _ => rfl)) (pe_gi T.c_MINUS) (nomark _))))) (pss_one (ps_ret pe_int)) pss_nil)
      (pss_one (ps_ret pe_int))), ?_⟩
  rintro vs Q ⟨u, ⟨v, rfl, hz, a, rfl, ha⟩, k⟩
  refine Evl.q_when (Evl.et_and (Evl.et_test (ev_I0 (ev_lenT (ev_var rfl) ha) ev_c)) (b := decide (u.head? = some 45)) fun h0 => ?_) (fun hb H1 e1 => ?_) fun hb H1 e1 => ?_
  · rw [nV_len, decide_eq_true_eq] at h0
    cases u with
    | nil => simp at h0
    | cons n r => exact Evl.et_is (Evl.et_test (ev_eqI (ev_ixT (ev_var rfl) ev_c ha (atI_nat (j := 0) (nV_get (n := n) rfl))) ev_c)) (decide_eq_decide.mpr (by simp; omega))
  · refine Evl.s_ret (ev_int ev_c ?_) fun H2 e2 => k H2 (e1.trans e2)
    rw [Bool.and_eq_true, decide_eq_true_eq, decide_eq_true_eq] at hb
    unfold digitsFrom
    rw [if_pos hb.2]
    rfl
  · refine Evl.s_ret (ev_int ev_c ?_) fun H2 e2 => k H2 (e1.trans e2)
    have hne : ¬ u.head? = some 45 := fun q => by
      rw [decide_eq_true q, Bool.and_true, nV_len, decide_eq_false_iff_not] at hb
      cases u with
      | nil => simp at q
      | cons n r => exact hb (by simp)
    unfold digitsFrom
    rw [if_neg hne]
    rfl
end
end Tx
end

section
set_option Elab.async false
set_option linter.all false
set_option maxRecDepth 100000
set_option maxHeartbeats 4000000
set_option exponentiation.threshold 100000
namespace Tx
open PySem PySem.Spec PyProof.Rows L2
open Evl (Ex Ev EvL EvU EvT EvA EvO RV ev_c ev_var ea_nil ea_cons eo_none eo_some)
open VatdfBase (Cell Table)
/-- a place of a list of bytes, or 0 -/
def bat (u : List Nat) (k : Nat) : Nat := (u[k]?).getD 0
theorem bat_get {u : List Nat} {k : Nat} (h : k < u.length) : u[k]? = some (bat u k) := by
  unfold bat
  rw [List.getElem?_eq_getElem h]
  rfl
theorem range_drop (u : List Nat) (d : Nat) : (rangeL d (u.length - d)).map (bat u) = u.drop d := by
  apply List.ext_getElem?
  intro i
  rw [List.getElem?_map, List.getElem?_drop]
  by_cases h : i < u.length - d
  · rw [rangeL_get h]
    show some (bat u (d + i)) = _
    rw [bat_get (by omega)]
  · rw [List.getElem?_eq_none (by rw [rangeL_len]; omega), List.getElem?_eq_none (by omega)]
    rfl
section
variable {K : PySem.W.Frag} {σ : L2.St} {H : Hp} {te : TE}
theorem evl_rev {a : Addr} {xs : List V} (h : Ev te σ H (.ref a)) (hs : SqL K H a xs) : EvL (tRevL K te) σ H xs.reverse := fun H1 e Q q =>
  h H1 e _ fun H2 e2 => ⟨a, xs, rfl, SqL.ex (e.trans e2) hs, fun p hp => q p _ (Evl.fresh_back e2 hp) (e2.trans (Ex.new hp)) upd_same⟩
end
theorem mem_range {d n k : Nat} (h : k ∈ rangeL d n) : d ≤ k ∧ k < d + n := by
  unfold rangeL at h
  obtain ⟨i, hi, rfl⟩ := List.mem_map.mp h
  rw [List.mem_range] at hi
  omega
section
variable {P : Program} {w : World} {K : PySem.W.Frag} {mg : Str → Option Value} {base : Heap} {ad : Ads}
theorem fn_is_number_text (T : Tops K mg ad) : Fn P w K mg base "is_number_text" 2 ["said"] (spV (A1 fun (u : List Nat) v H => u.length ≤ 2000 ∧ isB K u v H) fun u => .bl (Vatdfa.numberOf u).isSome) := by
  refine Fn.mk' T.f_is_number_text sc_is_number_text lV1 fun cdv f A outer s H E hr => ⟨_, (pss_cons (ps_set (i := 1) sc_is_number_text.nd rfl (Or.inl rfl) (pe_fn (fn_digits_from T) (hr.mono (by decide)) (pa_cons (pv 0) pa_nil)))
      (pss_cons (ps_if (pt_cmpR op_eq (pv 1) (pe_callB call_len_seq (by rfl) T.b_len PySem.boot_len (pa_cons (pv 0) pa_nil)) (nomark _)) (pss_one (ps_ret pe_bl)) pss_nil)
      (pss_cons (ps_if (pt_not (pt_val (pe_callB (cr_all rfl) (by rfl) T.b_all (by decide +kernel) (pa_cons (pe_lc (own := [("k", 2)]) (g := gName 2) (tt := tYes) rfl sc_is_number_text.nd (pi_range2 rfl T.b_range (pa_cons (pv 1) (pa_cons (pe_callB call_len_seq (by rfl) T.b_len PySem.boot_len (pa_cons (pv 0) pa_nil)) pa_nil))) (blkOk_by (N := ["said", "at", "k"]) (sc := defScope s_is_number_text) (by decide +kernel)) (fun _ _ _ _ _ => pg_name (i := 2) sc_is_number_text.nd rfl (Or.inl rfl)) (fun _ _ _ _ _ => pts_nil) (fun _ _ _ _ _ => (pe_fn (fn_is_digit T) (hr.mono (by decide)) (pa_cons (pe_ix (ix_tupK K rfl) (pv 0) (pv 2) (fun _ _ => rfl)) pa_nil)))) pa_nil)))) (pss_one (ps_ret pe_bl)) pss_nil)
      (pss_cons (ps_if (pt_cmpR op_ne (pe_ix ix_tup (pv 0) (pv 1) (fun _ _ => rfl)) (pe_gi T.c_ZERO) (nomark _)) (pss_one (ps_ret pe_bl)) pss_nil)
      (pss_one (ps_ret (pe_cmpR op_eq (pe_callB call_len_seq (by rfl) T.b_len PySem.boot_len (pa_cons (pv 0) pa_nil)) pe_int (nomark _)))))))), ?_⟩
  rintro vs Q ⟨u, ⟨v, rfl, hz, a, rfl, ha⟩, k⟩
  refine Evl.q_asg (ev_callV u (ea_cons (ev_var rfl) ea_nil) fun H1 e => ⟨_, rfl, hz, a, rfl, SqT.ex e ha⟩) fun H1 e1 => ?_
  have ha1 := SqT.ex e1 ha
  have hle := digitsFrom_le u
  refine Evl.q_when (Evl.et_test (ev_eqI (ev_var rfl) (ev_lenT (ev_var rfl) ha1))) (fun hb H2 e2 => ?_) fun hb H2 e2 => ?_
  · rw [nV_len, decide_eq_true_eq] at hb
    exact Evl.s_ret (ev_bool ev_c (number_none1 (by omega)).symm) fun H3 e3 => k H3 ((e1.trans e2).trans e3)
  · rw [nV_len, decide_eq_false_iff_not] at hb
    have hne : digitsFrom u ≠ u.length := by omega
    have ha2 := SqT.ex e2 ha1
    have hcomp := fun (n : Nat) (hn : n = u.length - digitsFrom u) => evl_lcR2 (σ := ((start ["said", "at", "k"] [V.ref a]).set 1 (some (V.int (digitsFrom u : Nat))))) (H := H2) (j := 2) (vs := [2]) (tt := tYes) (ta := tCons (tVar 1) (tCons (tCB (fun xs H Q => ∃ p ys, xs = [.ref p] ∧ (SqL K H p ys ∨ SqT K H p ys) ∧ Q (.int ys.length) H) (tCons (tVar 0) tNil)) tNil))
      (te := tCall (spV (A1 fun (n : Nat) v _ => v = .int n) fun n => .bl (VatdfBase.isDigit n)) [] E0 (tCons (tOp (rIxT K) (tVar 0) (tVar 2)) tNil)) (digitsFrom u) n (fun _ => true) (fun k => V.bl (VatdfBase.isDigit (bat u k)))
      (ea_cons (ev_var rfl) (ea_cons (ev_lenT (ev_var rfl) ha2) ea_nil)) (by rw [nV_len]; omega) (by rw [nV_len]; omega) (by omega) (fun _ => rfl) (fun _ _ _ _ => et_yes)
      (fun k hk _ H3 e3 => ev_callV (bat u k) (ea_cons (ev_ixT (ev_var rfl) (ev_var rfl) (SqT.ex e3 ha2) (atI_nat (j := k) (nV_get (bat_get (by have := mem_range hk; omega))))) ea_nil) fun _ _ => ⟨_, rfl, rfl⟩)
    have hc := hcomp _ rfl
    rw [filter_all, show (rangeL (digitsFrom u) (u.length - digitsFrom u)).map (fun k => V.bl (VatdfBase.isDigit (bat u k))) = (((rangeL (digitsFrom u) (u.length - digitsFrom u)).map (bat u)).map VatdfBase.isDigit).map V.bl by rw [List.map_map, List.map_map]; rfl, range_drop] at hc
    refine Evl.q_when (Evl.et_not (et_val (ev_all hc))) (fun hd H3 e3 => ?_) fun hd H3 e3 => ?_
    · rw [Bool.not_eq_true', List.all_map] at hd
      exact Evl.s_ret (ev_bool ev_c (number_none2 hd).symm) fun H4 e4 => k H4 (((e1.trans e2).trans e3).trans e4)
    · rw [Bool.not_eq_false', List.all_map] at hd
      have ha3 := SqT.ex e3 ha2
      have hs := number_some hne hd
      have hg := bat_get (u := u) (k := digitsFrom u) (by omega)
      refine Evl.q_when (Evl.et_test (ev_neI (ev_ixT (ev_var rfl) (ev_var rfl) ha3 (atI_nat (j := digitsFrom u) (nV_get hg))) (ev_c (v := .int 48)))) (fun hb H4 e4 => ?_) fun hb H4 e4 => ?_
      · refine Evl.s_ret (ev_bool ev_c ?_) fun H5 e5 => k H5 ((((e1.trans e2).trans e3).trans e4).trans e5)
        rw [Bool.not_eq_true', decide_eq_false_iff_not] at hb
        rw [hs, hg, decide_eq_true (show some (bat u (digitsFrom u)) ≠ some 48 from fun q => hb (by rw [Option.some.inj q]; rfl)), Bool.true_or]
      · rw [Bool.not_eq_false', decide_eq_true_eq] at hb
        refine Evl.s_ret (ev_bool (ev_eqI (ev_lenT (ev_var rfl) (SqT.ex e4 ha3)) ev_c) ?_) fun H5 e5 => k H5 ((((e1.trans e2).trans e3).trans e4).trans e5)
        have h48 : bat u (digitsFrom u) = 48 := by omega
        rw [hs, hg, h48, nV_len]
        have e0 : decide (some 48 ≠ some 48) = false := by decide
        rw [e0, Bool.false_or]
        exact decide_eq_decide.mpr (by omega)
theorem numVal_bits {t : List Nat} (h : t.length ≤ 2000) (hb : ∀ b ∈ t, b ≤ 57) : (Vatdfa.numVal t : Int).natAbs < 2 ^ 8000 := by
  have h1 := numVal_lt t.length t rfl hb
  have h2 : 10 ^ t.length ≤ (2 ^ 4) ^ t.length := Nat.pow_le_pow_left (by decide) _
  have h3 : ((2 : Nat) ^ 4) ^ t.length ≤ (2 ^ 4) ^ 2000 := Nat.pow_le_pow_right (by decide) h
  rw [← Nat.pow_mul 2 4 2000] at h3
  rw [Int.natAbs_natCast]
  exact Nat.lt_of_lt_of_le h1 (Nat.le_trans h2 h3)
theorem all_digit {u : List Nat} (h : u.all VatdfBase.isDigit = true) : ∀ b ∈ u, 48 ≤ b ∧ b ≤ 57 := fun b hb => by
  have := List.all_eq_true.mp h b hb
  unfold VatdfBase.isDigit at this
  rw [Bool.and_eq_true, decide_eq_true_eq, decide_eq_true_eq] at this
  exact this
theorem fn_number_of (T : Tops K mg ad) : Fn P w K mg base "number_of" 2 ["said"] (spV (A1 fun (u : List Nat × Int) v H => u.1.length ≤ 2000 ∧ Vatdfa.numberOf u.1 = some u.2 ∧ isB K u.1 v H) fun u => .int u.2) := by
  refine Fn.mk' T.f_number_of sc_number_of lV1 fun cdv f A outer s H E hr => ⟨_, (pss_cons (ps_set (i := 1) sc_number_of.nd rfl (Or.inl rfl) (pe_fn (fn_digits_from T) (hr.mono (by decide)) (pa_cons (pv 0) pa_nil)))
      (pss_cons (ps_set (i := 2) sc_number_of.nd rfl (Or.inl rfl) pe_int)
      (pss_cons (ps_for PassesOwn.never rfl (pi_range2 rfl T.b_range (pa_cons (pv 1) (pa_cons (pe_callB call_len_seq (by rfl) T.b_len PySem.boot_len (pa_cons (pv 0) pa_nil)) pa_nil))) (pg_name (i := 3) sc_number_of.nd rfl (Or.inl rfl)) (pss_one (ps_set (i := 2) sc_number_of.nd rfl (Or.inl rfl) (pe_op op_sub (pe_op op_add (pe_op op_mulW (pv 2) pe_int) (pe_ix ix_tup (pv 0) (pv 3) (fun _ _ => rfl))) (pe_gi T.c_ZERO)))))
      (pss_cons (ps_if (pt_cmpR op_eq (pv 1) pe_int (nomark _)) (pss_one (ps_ret (pe_un un_neg (pv 2)))) pss_nil)
      (pss_one (ps_ret (pv 2))))))), ?_⟩
  rintro vs Q ⟨⟨u, z⟩, ⟨v, rfl, hz, hn, a, rfl, ha⟩, k⟩
  change u.length ≤ 2000 at hz
  change Vatdfa.numberOf u = some z at hn
  change SqT K H a (nV u) at ha
  change ∀ H', Ex H H' → Q (.int z) H' at k
  obtain ⟨hne, hall, hval⟩ := number_digits hn
  have hle := digitsFrom_le u
  have hdig := all_digit hall
  refine Evl.q_asg (ev_callV u (ea_cons (ev_var rfl) ea_nil) fun H1 e => ⟨_, rfl, hz, a, rfl, SqT.ex e ha⟩) fun H1 e1 => ?_
  refine Evl.q_asg ev_c fun H2 e2 => ?_
  have ha2 := SqT.ex (e1.trans e2) ha
  refine Evl.q_forR2 (lo := digitsFrom u) (n := u.length) (ea_cons (ev_var rfl) (ea_cons (ev_int (ev_lenT (ev_var rfl) ha2) (by rw [nV_len])) ea_nil)) (by omega)
    (fun i σ' H' => Ex H H' ∧ ∃ vk, σ' = [some (.ref a), some (.int (digitsFrom u : Nat)), some (.int (Vatdfa.numVal ((u.drop (digitsFrom u)).take i) : Nat)), vk]) (fun H3 e3 => ⟨(e1.trans e2).trans e3, none, rfl⟩) ?_ ?_
  · rintro i σ' H' hi ⟨e, vk, rfl⟩
    have hi' : digitsFrom u + i < u.length := by omega
    have hg := bat_get hi'
    have hgd : (u.drop (digitsFrom u))[i]? = some (bat u (digitsFrom u + i)) := by rw [List.getElem?_drop]; exact hg
    have hb := hdig _ (List.mem_of_getElem? hgd)
    have e0 : ((digitsFrom u : Nat) : Int) + (i : Int) = ((digitsFrom u + i : Nat) : Int) := by omega
    have hbits : (Vatdfa.numVal ((u.drop (digitsFrom u)).take i) : Int).natAbs < 2 ^ 8000 := numVal_bits (by rw [List.length_take, List.length_drop]; omega) fun b hb => (hdig b (List.mem_of_mem_take hb)).2
    refine Evl.s_asg (ev_int (ev_I0 (ev_I0 (ev_I (ev_var rfl) ev_c (wide_mul hbits (by decide : (10 : Int).natAbs < 2 ^ 8) (by decide) (by decide) (by decide))) (ev_ixT (ev_var rfl) (ev_var rfl) (SqT.ex e ha) (by rw [e0]; exact atI_nat (nV_get hg)))) ev_c) (b := (Vatdfa.numVal ((u.drop (digitsFrom u)).take (i + 1)) : Nat)) ?_) fun H4 e4 => ⟨e.trans e4, _, rfl⟩
    rw [take_succ_get hgd, numVal_snoc]
    omega
  · rintro σ' H' ⟨e, vk, rfl⟩
    have ht : (u.drop (digitsFrom u)).take ((u.length : Int) - (digitsFrom u : Nat)).toNat = u.drop (digitsFrom u) := List.take_of_length_le (by rw [List.length_drop]; omega)
    rw [ht]
    refine Evl.q_when (Evl.et_test (ev_eqI (ev_var rfl) ev_c)) (fun hb H4 e4 => ?_) fun hb H4 e4 => ?_
    · rw [decide_eq_true_eq] at hb
      refine Evl.s_ret (ev_int (ev_neg (ev_var rfl)) ?_) fun H5 e5 => k H5 ((e.trans e4).trans e5)
      rw [hval, if_pos (by omega)]
    · rw [decide_eq_false_iff_not] at hb
      refine Evl.s_ret (ev_int (ev_var rfl) ?_) fun H5 e5 => k H5 ((e.trans e4).trans e5)
      rw [hval, if_neg (by omega)]
theorem nV_eq (l : List Nat) : nV l = (nI l).map V.int := rfl
theorem nV_append (a b : List Nat) : nV (a ++ b) = nV a ++ nV b := by
  unfold nV nI
  rw [List.map_append, List.map_append]
theorem fn_digits (T : Tops K mg ad) : Fn P w K mg base "digits" 1 ["number"] (spL (A1 fun (n : Nat) v _ => n ≤ 1000000 ∧ v = .int n) fun n => nV (Vatdfa.digits n)) := by
  refine Fn.mk' T.f_digits sc_digits lN1 fun cdv f A outer s H E hr => ⟨_, (pss_cons (ps_set (i := 1) sc_digits.nd rfl (Or.inl rfl) (pe_lst (pa_cons (pe_op op_add (pe_gi T.c_ZERO) (pe_op op_mod (pv 0) pe_int)) pa_nil)))
      (pss_cons (ps_set (i := 2) sc_digits.nd rfl (Or.inl rfl) (pe_op op_fdiv (pv 0) pe_int))
      (pss_cons (ps_while PassesOwn.never (pt_cmpR op_gt (pv 2) pe_int (nomark _)) (pss_cons (ps_expr (pe_bm PySem.F.plainAttrs_list PySem.F.slot_list_append PySem.F.type_list_append mt_append (pv 1) (pa_cons (pe_op op_add (pe_gi T.c_ZERO) (pe_op op_mod (pv 2) pe_int)) pa_nil)))
      (pss_one (ps_set (i := 2) sc_digits.nd rfl (Or.inl rfl) (pe_op op_fdiv (pv 2) pe_int)))))
      (pss_one (ps_ret (pe_revL (pv 1))))))), ?_⟩
  rintro vs Q ⟨n, ⟨v, rfl, hz, rfl⟩, k⟩
  have hd : (48 : Int) + (n : Int) % 10 = ((48 + n % 10 : Nat) : Int) := by omega
  refine Evl.q_asgL (Evl.el_lst (ea_cons (ev_int (ev_I0 (ev_c (v := .int 48)) (ev_I (ev_var rfl) ev_c (by show (0 : Int) < 10; decide))) hd) ea_nil) (by show 1 ≤ 100000; decide)) fun p H1 np e1 hp => ?_
  refine Evl.q_asg (ev_int (ev_I (ev_var rfl) ev_c ⟨by decide, by decide⟩) (show (n : Int) / 10 = ((n / 10 : Nat) : Int) by omega)) fun H2 e2 => ?_
  refine Evl.q_while (fun m σ' H' => ∃ left done, m = left ∧ left ≤ 1000000 ∧ Ex H H' ∧ σ' = [some (.int n), some (.ref p), some (.int (left : Nat))] ∧ H' p = some (.lst (nV done)) ∧ done.length + (turnedRest left).length ≤ 100 ∧ done ++ turnedRest left = (48 + n % 10) :: turnedRest (n / 10)) (n / 10)
    ⟨n / 10, [48 + n % 10], rfl, by omega, e1.trans e2, rfl, e2 _ _ hp, by have := turned_len 7 (n / 10) (by omega); simp; omega, rfl⟩ ?_
  rintro m σ' H' ⟨left, done, rfl, hl, e, rfl, hp', hlen, hdone⟩
  refine ⟨_, Evl.et_test (ev_I0 (ev_var rfl) ev_c), fun hb H3 e3 => ?_, fun hb H3 e3 => ?_⟩
  · rw [decide_eq_true_eq] at hb
    have h0 : m ≠ 0 := by omega
    refine ⟨fun σ2 H2 => ∃ m', m' < m ∧ ∃ left done, m' = left ∧ left ≤ 1000000 ∧ Ex H H2 ∧ σ2 = [some (.int n), some (.ref p), some (.int (left : Nat))] ∧ H2 p = some (.lst (nV done)) ∧ done.length + (turnedRest left).length ≤ 100 ∧ done ++ turnedRest left = (48 + n % 10) :: turnedRest (n / 10), fun _ _ h => h, ?_⟩
    have hd : (48 : Int) + (m : Int) % 10 = ((48 + m % 10 : Nat) : Int) := by omega
    have hp3 := e3 _ _ hp'
    refine Evl.q_app hp3 (ev_var rfl) (ev_int (ev_I0 (ev_c (v := .int 48)) (ev_I (ev_var rfl) ev_c (by show (0 : Int) < 10; decide))) hd) (by rw [nV_len]; omega) fun H4 e4 => ?_
    refine Evl.s_asg (ev_int (ev_I (ev_var rfl) ev_c ⟨by decide, by decide⟩) (show (m : Int) / 10 = ((m / 10 : Nat) : Int) by omega)) fun H5 e5 => ?_
    rw [turnedRest_pos h0] at hdone hlen
    refine ⟨m / 10, by omega, m / 10, done ++ [48 + m % 10], rfl, by omega, (Ex.mut ((e.trans e3).trans e4) np).trans e5, rfl, e5 _ _ (by rw [upd_same, nV_append]; rfl), by simp at hlen ⊢; omega, by rw [List.append_assoc]; exact hdone⟩
  · rw [decide_eq_false_iff_not] at hb
    have h0 : m = 0 := by omega
    subst h0
    rw [turnedRest_zero, List.append_nil] at hdone
    have e0 : (nV done).reverse = nV (Vatdfa.digits n) := by
      rw [digits_is, ← hdone]
      unfold nV nI
      rw [List.map_reverse, List.map_reverse]
    refine s_retF (evl_is (evl_rev (ev_var rfl) (SqL.of (e3 _ _ hp'))) e0) fun q H4 nq e4 hq => k q H4 (Evl.fresh_back (e.trans e3) nq) ((e.trans e3).trans e4) hq
theorem fn_decimal (T : Tops K mg ad) : Fn P w K mg base "decimal" 2 ["number"] (spL (A1 fun (z : Int) v _ => -1000000 ≤ z ∧ z ≤ 1000000 ∧ v = .int z) fun z => nV (Vatdfa.numText z)) := by
  refine Fn.mk' T.f_decimal sc_decimal lN1 fun cdv f A outer s H E hr => ⟨_, (pss_cons (ps_if (pt_cmpR op_lt (pv 0) pe_int (nomark _)) (pss_one (ps_ret (pe_op op_cat (pe_lst (pa_cons (pe_gi T.c_MINUS) pa_nil)) (pe_fn (fn_digits T) (hr.mono (by decide)) (pa_cons (pe_un un_neg (pv 0)) pa_nil))))) pss_nil)
      (pss_one (ps_ret (pe_fn (fn_digits T) (hr.mono (by decide)) (pa_cons (pv 0) pa_nil))))), ?_⟩
  rintro vs Q ⟨z, ⟨v, rfl, hz, hz', rfl⟩, k⟩
  refine Evl.q_when (Evl.et_test (ev_I0 (ev_var rfl) ev_c)) (fun hb H1 e1 => ?_) fun hb H1 e1 => ?_
  · rw [decide_eq_true_eq] at hb
    have hlen : (Vatdfa.digits z.natAbs).length ≤ 100 := by
      rw [digits_is]
      have := turned_len 7 (z.natAbs / 10) (by omega)
      simp
      omega
    refine Evl.s_retL (evl_is (evl_cat (Evl.el_lst (ea_cons (ev_c (v := .int 45)) ea_nil) (by show 1 ≤ 100000; decide))
      (evl_callL z.natAbs (ea_cons (ev_int (ev_neg (ev_var rfl)) (show -z = (z.natAbs : Nat) by omega)) ea_nil) fun _ _ => ⟨_, rfl, by omega, rfl⟩) (by rw [nV_len]; exact Evl.sz_of (by simp; omega))) ?_) fun q H4 nq e4 hq => k q H4 (Evl.fresh_back e1 nq) (e1.trans e4) hq
    show _ = nV (Vatdfa.numText z)
    unfold Vatdfa.numText
    rw [if_pos hb]
    rfl
  · rw [decide_eq_false_iff_not] at hb
    refine Evl.s_retL (evl_is (evl_callL z.natAbs (ea_cons (ev_var rfl) ea_nil) fun _ _ => ⟨_, rfl, by omega, congrArg V.int (by omega)⟩) ?_) fun q H4 nq e4 hq => k q H4 (Evl.fresh_back e1 nq) (e1.trans e4) hq
    show _ = nV (Vatdfa.numText z)
    unfold Vatdfa.numText
    rw [if_neg hb]
end
end Tx
end

section
set_option Elab.async false
set_option linter.all false
set_option maxRecDepth 100000
set_option maxHeartbeats 4000000
set_option exponentiation.threshold 100000
namespace Tx
open PySem PySem.Spec PyProof.Rows L2
open Evl (Ex Ev EvL EvU EvT EvA EvO RV ev_c ev_var ea_nil ea_cons eo_none eo_some)
open VatdfBase (Cell Table)
section
variable {P : Program} {w : World} {K : PySem.W.Frag} {mg : Str → Option Value} {base : Heap} {ad : Ads}
theorem dp_of_tup {H : Hp} {p : Addr} {ns : List Int} (h : SqT K H p (ns.map V.int)) : Dp K H (.ref p) (.tuple (ns.map .int)) := dp_tupI.mpr ⟨p, rfl, h⟩
theorem fn_number_cell (T : Tops K mg ad) : Fn P w K mg base "number_cell" 1 ["number"] (spP (A1 fun (z : Int) v _ => v = .int z) fun z v H => Dp K H v (cD (.num z))) := by
  refine Fn.mk' T.f_number_cell sc_number_cell lP1 fun cdv f A outer s H E hr => ⟨_, (pss_one (ps_ret (pe_tup (pa_cons pe_int (pa_cons (pv 0) pa_nil))))), ?_⟩
  rintro vs Q ⟨z, ⟨v, rfl, rfl⟩, k⟩
  exact Evl.s_retU (Evl.eu_tup (ea_cons ev_c (ea_cons (ev_var rfl) ea_nil)) (by show 2 ≤ 100000; decide)) fun p H1 _ e1 hp => k _ H1 e1 (dp_of_tup (ns := [1, z]) (SqT.of hp))
theorem fn_word_cell (T : Tops K mg ad) : Fn P w K mg base "word_cell" 1 ["said"] (spP (A1 fun (u : List Nat) v H => u.length ≤ 2000 ∧ isB K u v H) fun u v H => Dp K H v (cD (.word u))) := by
  refine Fn.mk' T.f_word_cell sc_word_cell lP1 fun cdv f A outer s H E hr => ⟨_, (pss_one (ps_ret (pe_op op_catA (pe_tup (pa_cons pe_int pa_nil)) (pv 0)))), ?_⟩
  rintro vs Q ⟨u, ⟨v, rfl, hz, a, rfl, ha⟩, k⟩
  refine s_retP (evp_catA (xs := [.int 2]) (Evl.eu_tup (ea_cons ev_c ea_nil) (by show 1 ≤ 100000; decide)) (ev_var rfl) ha (by rw [nV_len]; exact Evl.sz_of (by simp; omega))) ?_
  rintro v H1 e1 ⟨p, rfl, hp⟩
  exact k _ H1 e1 (dp_of_tup (ns := 2 :: nI u) hp)
theorem fn_in_limits (T : Tops K mg ad) : Fn P w K mg base "in_limits" 1 ["number"] (spV (A1 fun (z : Int) v _ => v = .int z) fun z => .bl (VatdfBase.isCell (.num z))) := by
  refine Fn.mk' T.f_in_limits sc_in_limits lV1 fun cdv f A outer s H E hr => ⟨_, (pss_one (ps_ret (pe_chain op_le op_le (pe_un un_neg (pe_gi T.c_LIMIT)) (pv 0) (pe_gi T.c_LIMIT)))), ?_⟩
  rintro vs Q ⟨z, ⟨v, rfl, rfl⟩, k⟩
  exact Evl.s_ret (ev_bool (ev_leLe (ev_neg (ev_c (v := .int 1000000))) (ev_var rfl) (ev_c (v := .int 1000000))) rfl) k
theorem fn_told_bytes (T : Tops K mg ad) : Fn P w K mg base "told_bytes" 1 ["said"] (spL (A1 fun (u : List Nat) v H => u.length ≤ 2000 ∧ isB K u v H) fun u => (VatdfFlat.flatBytes u).map V.int) := by
  refine Fn.mk' T.f_told_bytes sc_told_bytes lN1 fun cdv f A outer s H E hr => ⟨_, (pss_one (ps_ret (pe_op op_cat (pe_lst (pa_cons (pe_callB call_len_seq (by rfl) T.b_len PySem.boot_len (pa_cons (pv 0) pa_nil)) pa_nil)) (pe_callTy call_list_of (by rfl) T.b_list (by decide +kernel) (pa_cons (pv 0) pa_nil))))), ?_⟩
  rintro vs Q ⟨u, ⟨v, rfl, hz, a, rfl, ha⟩, k⟩
  refine Evl.s_retL (evl_is (evl_cat (Evl.el_lst (ea_cons (ev_lenT (ev_var rfl) ha) ea_nil) (by show 1 ≤ 100000; decide)) (evl_listT (ev_var rfl) ha) (by rw [nV_len]; exact Evl.sz_of (by simp; omega))) ?_) k
  rw [nV_len]
  rfl
def cTag : Cell → Int
  | .empty => 0
  | .num _ => 1
  | .word _ => 2
theorem cell_at (c : Cell) : (cI c)[0]? = some (cTag c) := by cases c <;> rfl
theorem cut_1 {xs : List V} (h : 1 ≤ xs.length) : cutV xs (some 1) none = xs.drop 1 := cut_from (i := 1) h
theorem cell_len {c : Cell} (h : VatdfBase.isCell c = true) : (cI c).length ≤ 9 := by
  cases c with
  | empty => simp [cI]
  | num z => simp [cI]
  | word u =>
    have h' : VatdfBase.isWord u = true := h
    unfold VatdfBase.isWord VatdfBase.WORD at h'
    simp only [Bool.and_eq_true, decide_eq_true_eq] at h'
    simp [cI]
    omega
theorem cell_word {u : List Nat} (h : VatdfBase.isCell (.word u) = true) : 1 ≤ u.length ∧ u.length ≤ 8 := by
  have h' : VatdfBase.isWord u = true := h
  unfold VatdfBase.isWord VatdfBase.WORD at h'
  simp only [Bool.and_eq_true, decide_eq_true_eq] at h'
  exact ⟨h'.1, h'.2.1⟩
theorem fn_told_cell (T : Tops K mg ad) : Fn P w K mg base "told_cell" 2 ["cell"] (spL (A1 fun (c : Cell) v H => VatdfBase.isCell c = true ∧ Dp K H v (cD c)) fun c => (VatdfFlat.flatCell c).map V.int) := by
  refine Fn.mk' T.f_told_cell sc_told_cell lN1 fun cdv f A outer s H E hr => ⟨_, (pss_cons (ps_if (pt_cmpR op_eq (pe_ix ix_tup (pv 0) pe_int (fun _ _ => rfl)) pe_int (nomark _)) (pss_one (ps_ret (pe_op op_cat (pe_lst (pa_cons pe_int pa_nil)) (pe_fn (fn_told_bytes T) (hr.mono (by decide)) (pa_cons (pe_slice sl_tupA (pv 0) (po_some pe_int) po_none) pa_nil))))) pss_nil)
      (pss_one (ps_ret (pe_callTy call_list_of (by rfl) T.b_list (by decide +kernel) (pa_cons (pv 0) pa_nil))))), ?_⟩
  rintro vs Q ⟨c, ⟨v, rfl, hc, hd⟩, k⟩
  obtain ⟨a, rfl, ha⟩ := dp_cD.mp hd
  have hlen := cell_len hc
  have h0 : ((cI c).map V.int)[0]? = some (.int (cTag c)) := by rw [List.getElem?_map, cell_at]; rfl
  refine Evl.q_when (Evl.et_test (ev_eqI (ev_ixT (ev_var rfl) ev_c ha (atI_nat (j := 0) h0)) ev_c)) (fun hb H1 e1 => ?_) fun hb H1 e1 => ?_
  · cases c with
    | empty => simp [cTag] at hb
    | num z => simp [cTag] at hb
    | word u =>
      have hw := cell_word hc
      refine Evl.s_retL (evl_is (evl_cat (Evl.el_lst (ea_cons ev_c ea_nil) (by show 1 ≤ 100000; decide)) (evl_callLP u (eap_one (evp_slT (ev_var rfl) (eo_some (i := 1) ev_c) eo_none (SqT.ex e1 ha))) ?_) (Evl.sz_of (by simp [VatdfFlat.flatBytes, VatdfFlat.ints]; omega))) ?_) fun q H4 nq e4 hq => k q H4 (Evl.fresh_back e1 nq) (e1.trans e4) hq
      · rintro vs H2 e2 ⟨v, rfl, p, rfl, hp⟩
        refine ⟨_, rfl, by omega, p, rfl, ?_⟩
        rw [cut_1 (by simp [cI])] at hp
        exact hp
      · rfl
  · have e0 : (VatdfFlat.flatCell c).map V.int = (cI c).map V.int := by
      cases c with
      | empty => rfl
      | num z => rfl
      | word u => simp [cTag] at hb
    exact Evl.s_retL (evl_is (evl_listT (ev_var rfl) (SqT.ex e1 ha)) e0.symm) fun q H4 nq e4 hq => k q H4 (Evl.fresh_back e1 nq) (e1.trans e4) hq
theorem nI_contains (u : List Nat) (b : Nat) : (nI u).contains (b : Int) = u.contains b := by
  rw [Bool.eq_iff_iff, List.contains_iff_mem, List.contains_iff_mem]
  unfold nI
  rw [List.mem_map]
  constructor
  · rintro ⟨c, hc, e⟩
    have : c = b := by omega
    rw [← this]
    exact hc
  · intro h
    exact ⟨b, h, rfl⟩
theorem fn_needs_quotes (T : Tops K mg ad) : Fn P w K mg base "needs_quotes" 3 ["said"] (spV (A1 fun (u : List Nat) v H => u.length ≤ 2000 ∧ isB K u v H) fun u => .bl (!Vatdfa.isBare u)) := by
  refine Fn.mk' T.f_needs_quotes sc_needs_quotes lV1 fun cdv f A outer s H E hr => ⟨_, (pss_one (ps_ret (pe_or (pe_fn (fn_is_number_text T) (hr.mono (by decide)) (pa_cons (pv 0) pa_nil)) (pe_or (pe_cmpR op_in_seq (pe_gi T.c_COMMA) (pv 0) rfl) (pe_one (pe_cmpR op_in_seq (pe_gi T.c_QUOTES) (pv 0) rfl)))))), ?_⟩
  rintro vs Q ⟨u, ⟨v, rfl, hz, a, rfl, ha⟩, k⟩
  refine Evl.s_ret (ev_bool (Evl.ev_orV (ev_callV u (ea_cons (ev_var rfl) ea_nil) fun H1 e => ⟨_, rfl, hz, a, rfl, SqT.ex e ha⟩) fun _ => Evl.ev_orV (ev_inT (ev_c (v := .int 44)) (ev_var rfl) ha) fun _ => ev_inT (ev_c (v := .int 34)) (ev_var rfl) ha) ?_) k
  rw [show (nI u).contains (44 : Int) = u.contains 44 from nI_contains u 44, show (nI u).contains (34 : Int) = u.contains 34 from nI_contains u 34]
  unfold Vatdfa.isBare
  cases h : Vatdfa.numberOf u <;> cases h44 : u.contains 44 <;> cases h34 : u.contains 34 <;> rfl
def dbl (b : Nat) : List Nat := if b = 34 then [34, 34] else [b]
theorem dbl_len (l : List Nat) : (l.flatMap dbl).length ≤ 2 * l.length := by
  induction l with
  | nil => simp
  | cons b l ih =>
    rw [List.flatMap_cons, List.length_append, List.length_cons]
    have : (dbl b).length ≤ 2 := by unfold dbl; split <;> simp
    omega
theorem fn_in_quotes (T : Tops K mg ad) : Fn P w K mg base "in_quotes" 1 ["said"] (spL (A1 fun (u : List Nat) v H => u.length ≤ 2000 ∧ isB K u v H) fun u => nV (34 :: (u.flatMap dbl ++ [34]))) := by
  refine Fn.mk' T.f_in_quotes sc_in_quotes lN1 fun cdv f A outer s H E hr => ⟨_, (pss_cons (ps_set (i := 1) sc_in_quotes.nd rfl (Or.inl rfl) (pe_lst (pa_cons (pe_gi T.c_QUOTES) pa_nil)))
      (pss_cons (ps_for PassesOwn.never rfl (pi_tup (pv 0)) (pg_name (i := 2) sc_in_quotes.nd rfl (Or.inl rfl)) (pss_cons (ps_expr (pe_bm PySem.F.plainAttrs_list PySem.F.slot_list_append PySem.F.type_list_append mt_append (pv 1) (pa_cons (pv 2) pa_nil)))
      (pss_one (ps_if (pt_cmpR op_eq (pv 2) (pe_gi T.c_QUOTES) (nomark _)) (pss_one (ps_expr (pe_bm PySem.F.plainAttrs_list PySem.F.slot_list_append PySem.F.type_list_append mt_append (pv 1) (pa_cons (pe_gi T.c_QUOTES) pa_nil)))) pss_nil))))
      (pss_cons (ps_expr (pe_bm PySem.F.plainAttrs_list PySem.F.slot_list_append PySem.F.type_list_append mt_append (pv 1) (pa_cons (pe_gi T.c_QUOTES) pa_nil)))
      (pss_one (ps_ret (pv 1)))))), ?_⟩
  rintro vs Q ⟨u, ⟨v, rfl, hz, a, rfl, ha⟩, k⟩
  refine Evl.q_asgL (Evl.el_lst (ea_cons (ev_c (v := .int 34)) ea_nil) (by show 1 ≤ 100000; decide)) fun p H1 np e1 hp => ?_
  refine Evl.q_forT (ev_var rfl) (SqT.ex e1 ha) (fun i σ' H' => Ex H H' ∧ H' p = some (.lst (nV (34 :: (u.take i).flatMap dbl))) ∧ ∃ vb, σ' = [some (.ref a), some (.ref p), vb])
    (fun H2 e2 => ⟨e1.trans e2, e2 _ _ hp, none, rfl⟩) (fun i σ' H' _ h => SqT.ex h.1 ha) ?_ ?_
  · rintro i x σ' H' hx ⟨e, hp', vb, rfl⟩
    rw [nV_map] at hx
    obtain ⟨b, hb, rfl⟩ := get_map hx
    have hlen : (u.take i).length ≤ 2000 := by rw [List.length_take]; omega
    have hdl := dbl_len (u.take i)
    refine Evl.q_app hp' (ev_var rfl) (ev_var rfl) (by rw [nV_len, List.length_cons]; omega) fun H2 e2 => ?_
    have ex2 : Ex H (upd H2 p (.lst (nV (34 :: (u.take i).flatMap dbl) ++ [.int (b : Nat)]))) := Ex.mut (e.trans e2) np
    refine Evl.s_when (Evl.et_test (ev_eqI (ev_var rfl) (ev_c (v := .int 34)))) (fun hc H3 e3 => ?_) fun hc H3 e3 => ?_
    · rw [decide_eq_true_eq] at hc
      have hb34 : b = 34 := by omega
      refine Evl.s_app (e3 _ _ upd_same) (ev_var rfl) (ev_c (v := .int 34)) (by rw [List.length_append, nV_len, List.length_cons]; show _ + 1 < _; omega) fun H4 e4 => ⟨Ex.mut ((ex2.trans e3).trans e4) np, ?_, _, rfl⟩
      rw [upd_same, take_succ_get hb, List.flatMap_append]
      subst hb34
      have : ([34] : List Nat).flatMap dbl = [34, 34] := rfl
      rw [this, show (34 :: ((u.take i).flatMap dbl ++ [34, 34])) = (34 :: (u.take i).flatMap dbl) ++ [34] ++ [34] by simp, nV_append, nV_append]
      rfl
    · rw [decide_eq_false_iff_not] at hc
      have hb34 : b ≠ 34 := by omega
      refine ⟨ex2.trans e3, ?_, _, rfl⟩
      rw [e3 _ _ upd_same, take_succ_get hb, List.flatMap_append]
      have : ([b] : List Nat).flatMap dbl = [b] := by simp [dbl, hb34]
      rw [this, show (34 :: ((u.take i).flatMap dbl ++ [b])) = (34 :: (u.take i).flatMap dbl) ++ [b] by simp, nV_append]
      rfl
  · rintro σ' H' ⟨e, hp', vb, rfl⟩
    rw [nV_len, List.take_length] at hp'
    have hdl := dbl_len u
    refine Evl.q_app hp' (ev_var rfl) (ev_c (v := .int 34)) (by rw [nV_len, List.length_cons]; omega) fun H2 e2 => ?_
    refine Evl.s_ret (ev_var rfl) fun H3 e3 => k p H3 np ((Ex.mut (e.trans e2) np).trans e3) (e3 _ _ ?_)
    show _ = some (HO.lst (nV (34 :: (u.flatMap dbl ++ [34]))))
    rw [upd_same, show (34 :: (u.flatMap dbl ++ [34])) = (34 :: u.flatMap dbl) ++ [34] by simp, nV_append]
    rfl
theorem cellText_word (u : List Nat) : Vatdfa.cellText (.word u) = if Vatdfa.isBare u = true then u else 34 :: (u.flatMap dbl ++ [34]) := rfl
theorem fn_shown_cell (T : Tops K mg ad) : Fn P w K mg base "shown_cell" 4 ["cell"] (spL (A1 fun (c : Cell) v H => VatdfBase.isCell c = true ∧ Dp K H v (cD c)) fun c => nV (Vatdfa.cellText c)) := by
  refine Fn.mk' T.f_shown_cell sc_shown_cell lN1 fun cdv f A outer s H E hr => ⟨_, (pss_cons (ps_if (pt_cmpR op_eq (pe_ix ix_tup (pv 0) pe_int (fun _ _ => rfl)) pe_int (nomark _)) (pss_one (ps_ret (pe_lst pa_nil))) pss_nil)
      (pss_cons (ps_if (pt_cmpR op_eq (pe_ix ix_tup (pv 0) pe_int (fun _ _ => rfl)) pe_int (nomark _)) (pss_one (ps_ret (pe_fn (fn_decimal T) (hr.mono (by decide)) (pa_cons (pe_ix ix_tup (pv 0) pe_int (fun _ _ => rfl)) pa_nil)))) pss_nil)
      (pss_cons (ps_set (i := 1) sc_shown_cell.nd rfl (Or.inl rfl) (pe_slice sl_tupA (pv 0) (po_some pe_int) po_none))
      (pss_cons (ps_if (pt_val (pe_fn (fn_needs_quotes T) (hr.mono (by decide)) (pa_cons (pv 1) pa_nil))) (pss_one (ps_ret (pe_fn (fn_in_quotes T) (hr.mono (by decide)) (pa_cons (pv 1) pa_nil)))) pss_nil)
      (pss_one (ps_ret (pe_callTy call_list_of (by rfl) T.b_list (by decide +kernel) (pa_cons (pv 1) pa_nil)))))))), ?_⟩
  rintro vs Q ⟨c, ⟨v, rfl, hc, hd⟩, k⟩
  obtain ⟨a, rfl, ha⟩ := dp_cD.mp hd
  have hlen := cell_len hc
  have h0 : ((cI c).map V.int)[0]? = some (.int (cTag c)) := by rw [List.getElem?_map, cell_at]; rfl
  refine Evl.q_when (Evl.et_test (ev_eqI (ev_ixT (ev_var rfl) ev_c ha (atI_nat (j := 0) h0)) ev_c)) (fun hb H1 e1 => ?_) fun hb H1 e1 => ?_
  · cases c with
    | empty => exact Evl.s_retL (Evl.el_lst ea_nil (Nat.zero_le _)) fun q H4 nq e4 hq => k q H4 (Evl.fresh_back e1 nq) (e1.trans e4) hq
    | num z => simp [cTag] at hb
    | word u => simp [cTag] at hb
  · refine Evl.q_when (Evl.et_test (ev_eqI (ev_ixT (ev_var rfl) ev_c (SqT.ex e1 ha) (atI_nat (j := 0) h0)) ev_c)) (fun hb2 H2 e2 => ?_) fun hb2 H2 e2 => ?_
    · cases c with
      | empty => simp [cTag] at hb2
      | num z =>
        have hz : -1000000 ≤ z ∧ z ≤ 1000000 := by
          have h' : (decide (-VatdfBase.NUMBER ≤ z) && decide (z ≤ VatdfBase.NUMBER)) = true := hc
          rw [Bool.and_eq_true, decide_eq_true_eq, decide_eq_true_eq] at h'
          exact h'
        exact Evl.s_retL (evl_callL z (ea_cons (ev_ixT (ev_var rfl) ev_c (SqT.ex (e1.trans e2) ha) (atI_nat (j := 1) rfl)) ea_nil) fun _ _ => ⟨_, rfl, hz.1, hz.2, rfl⟩) fun q H4 nq e4 hq => k q H4 (Evl.fresh_back (e1.trans e2) nq) ((e1.trans e2).trans e4) hq
      | word u => simp [cTag] at hb2
    · cases c with
      | empty => simp [cTag] at hb
      | num z => simp [cTag] at hb2
      | word u =>
        have hw := cell_word hc
        refine q_asgP (evp_slT (ev_var rfl) (eo_some (i := 1) ev_c) eo_none (SqT.ex (e1.trans e2) ha)) ?_
        rintro v H3 e3 ⟨p, rfl, hp⟩
        rw [cut_1 (by simp [cI])] at hp
        have hp : SqT K H3 p (nV u) := hp
        refine Evl.q_when (et_val (ev_callV u (ea_cons (ev_var rfl) ea_nil) fun H4 e4 => ⟨_, rfl, by omega, p, rfl, SqT.ex e4 hp⟩)) (fun hb3 H4 e4 => ?_) fun hb3 H4 e4 => ?_
        · refine Evl.s_retL (evl_is (evl_callL u (ea_cons (ev_var rfl) ea_nil) fun H5 e5 => ⟨_, rfl, by omega, p, rfl, SqT.ex (e4.trans e5) hp⟩) ?_) fun q H5 nq e5 hq => k q H5 (Evl.fresh_back ((e1.trans e2).trans (e3.trans e4)) nq) (((e1.trans e2).trans (e3.trans e4)).trans e5) hq
          show _ = nV (Vatdfa.cellText (.word u))
          rw [cellText_word]
          rw [Bool.not_eq_true'] at hb3
          rw [if_neg (by rw [hb3]; decide)]
        · refine Evl.s_retL (evl_is (evl_listT (ev_var rfl) (SqT.ex e4 hp)) ?_) fun q H5 nq e5 hq => k q H5 (Evl.fresh_back ((e1.trans e2).trans (e3.trans e4)) nq) (((e1.trans e2).trans (e3.trans e4)).trans e5) hq
          show _ = nV (Vatdfa.cellText (.word u))
          rw [cellText_word]
          rw [Bool.not_eq_false'] at hb3
          rw [if_pos hb3]
end
end Tx
end

section
set_option Elab.async false
set_option linter.all false
set_option maxRecDepth 100000
set_option maxHeartbeats 4000000
set_option exponentiation.threshold 100000
namespace Tx
open PySem PySem.Spec PyProof.Rows L2
open Evl (Ex Ev EvL EvU EvT EvA EvO RV ev_c ev_var ea_nil ea_cons eo_none eo_some)
open VatdfBase (Cell Table)
/-! ### instances' fields -/
theorem lk_here {k : Str} {v : V} {r : List (Str × V)} : List.lookup k ((k, v) :: r) = some v := by
  have e : (k == k) = true := beq_self_eq_true k
  simp only [List.lookup, e]
theorem lk_past {k g : Str} {v : V} {r : List (Str × V)} (h : (k == g) = false) : List.lookup k ((g, v) :: r) = List.lookup k r := by
  simp only [List.lookup, h]
theorem put_here {f : Str} {v x : V} {r : List (Str × V)} : putF f v ((f, x) :: r) = (f, v) :: r := if_pos rfl
theorem put_past {f g : Str} {v x : V} {r : List (Str × V)} (h : ¬ g = f) : putF f v ((g, x) :: r) = (g, x) :: putF f v r := if_neg h
theorem put_nil {f : Str} {v : V} : putF f v [] = [(f, v)] := rfl
def tabF (x y : V) : List (Str × V) := [("names", x), ("rows", y)]
theorem tab_names {x y : V} : (tabF x y).lookup ("names" : Str) = some x := lk_here
theorem tab_rows {x y : V} : (tabF x y).lookup ("rows" : Str) = some y := (lk_past (by decide +kernel)).trans lk_here
/-- a table at v -/
structure TabAt (K : PySem.W.Frag) (ad : Ads) (H : Hp) (t : Table) (a ln lr : Addr) (ns rs : List V) : Prop where
  ins : ∃ dx, H a = some (.ins ad.Table dx (tabF (.ref ln) (.ref lr)))
  nl : SqL K H ln ns
  nd : DpAll K H ns (t.names.map bD)
  rl : SqL K H lr rs
  rd : DpAll K H rs (t.rows.map rD)
def isTab (K : PySem.W.Frag) (ad : Ads) (t : Table) (v : V) (H : Hp) : Prop := ∃ a ln lr ns rs, v = .ref a ∧ TabAt K ad H t a ln lr ns rs
theorem TabAt.ex {K : PySem.W.Frag} {ad : Ads} {H H' : Hp} {t : Table} {a ln lr : Addr} {ns rs : List V} (e : Ex H H') (h : TabAt K ad H t a ln lr ns rs) : TabAt K ad H' t a ln lr ns rs := by
  obtain ⟨⟨dx, h1⟩, h2, h3, h4, h5⟩ := h
  exact ⟨⟨dx, e _ _ h1⟩, SqL.ex e h2, DpAll.ex e h3, SqL.ex e h4, DpAll.ex e h5⟩
theorem isTab.ex {K : PySem.W.Frag} {ad : Ads} {H H' : Hp} {t : Table} {v : V} (e : Ex H H') (h : isTab K ad t v H) : isTab K ad t v H' := by
  obtain ⟨a, ln, lr, ns, rs, h1, h2⟩ := h
  exact ⟨a, ln, lr, ns, rs, h1, h2.ex e⟩
/-- a list of whole numbers at v -/
def isL (K : PySem.W.Frag) (l : List Int) (v : V) (H : Hp) : Prop := ∃ a, v = .ref a ∧ SqL K H a (l.map V.int)
theorem isL.ex {K : PySem.W.Frag} {H H' : Hp} {l : List Int} {v : V} (e : Ex H H') (h : isL K l v H) : isL K l v H' := by
  obtain ⟨a, h1, h2⟩ := h
  exact ⟨a, h1, SqL.ex e h2⟩
theorem len_names {K : PySem.W.Frag} {ad : Ads} {H : Hp} {t : Table} {a ln lr : Addr} {ns rs : List V} (h : TabAt K ad H t a ln lr ns rs) : ns.length = t.names.length := by
  have := DpAll.len h.nd
  rwa [List.length_map] at this
theorem len_rows {K : PySem.W.Frag} {ad : Ads} {H : Hp} {t : Table} {a ln lr : Addr} {ns rs : List V} (h : TabAt K ad H t a ln lr ns rs) : rs.length = t.rows.length := by
  have := DpAll.len h.rd
  rwa [List.length_map] at this
section
variable {K : PySem.W.Frag} {ad : Ads} {mg : Str → Option Value} {σ : L2.St} {H : Hp} {te tb : TE}
theorem ev_names {t : Table} {a ln lr : Addr} {ns rs : List V} (T : Tops K mg ad) (ha : Ev te σ H (.ref a)) (h : TabAt K ad H t a ln lr ns rs) : Ev (tFld K te "names") σ H (.ref ln) := by
  obtain ⟨dx, h1⟩ := h.ins
  exact ev_fld ha h1 T.k_Table T.a_Table_names tab_names
theorem ev_rows {t : Table} {a ln lr : Addr} {ns rs : List V} (T : Tops K mg ad) (ha : Ev te σ H (.ref a)) (h : TabAt K ad H t a ln lr ns rs) : Ev (tFld K te "rows") σ H (.ref lr) := by
  obtain ⟨dx, h1⟩ := h.ins
  exact ev_fld ha h1 T.k_Table T.a_Table_rows tab_rows
/-- a row at its place -/
theorem row_at {t : Table} {a ln lr : Addr} {ns rs : List V} {i : Nat} {r : TRow} (h : TabAt K ad H t a ln lr ns rs) (hr : t.rows[i]? = some r) : ∃ b xs, rs[i]? = some (.ref b) ∧ SqT K H b xs ∧ DpAll K H xs (r.map cD) := by
  obtain ⟨v, h1, h2⟩ := DpAll.get h.rd (i := i) (d := rD r) (by rw [List.getElem?_map, hr]; rfl)
  obtain ⟨b, xs, rfl, h3, h4⟩ := dp_rD.mp h2
  exact ⟨b, xs, h1, h3, h4⟩
theorem name_at {t : Table} {a ln lr : Addr} {ns rs : List V} {i : Nat} {u : List Nat} (h : TabAt K ad H t a ln lr ns rs) (hr : t.names[i]? = some u) : ∃ b, ns[i]? = some (.ref b) ∧ SqT K H b (nV u) := by
  obtain ⟨v, h1, h2⟩ := DpAll.get h.nd (i := i) (d := bD u) (by rw [List.getElem?_map, hr]; rfl)
  obtain ⟨b, rfl, h3⟩ := dp_bD.mp h2
  exact ⟨b, h1, h3⟩
theorem cell_in {xs : List V} {r : TRow} {c : Nat} (h : DpAll K H xs (r.map cD)) (hc : c < r.length) : ∃ v, xs[c]? = some v ∧ Dp K H v (cD (VatdfBase.cellAt r c)) := by
  have e : r[c]? = some (VatdfBase.cellAt r c) := by
    unfold VatdfBase.cellAt
    rw [List.getElem?_eq_getElem hc]
    rfl
  exact DpAll.get h (by rw [List.getElem?_map, e]; rfl)
end
def isCol (t : Table) (c : Int) : Bool := decide (0 ≤ c) && decide (c < (t.names.length : Int))
/-- an item of a list of whole numbers, or 0 -/
def iat (l : List Int) (k : Nat) : Int := (l[k]?).getD 0
theorem iat_get {l : List Int} {k : Nat} (h : k < l.length) : l[k]? = some (iat l k) := by
  unfold iat
  rw [List.getElem?_eq_getElem h]
  rfl
theorem int_get {l : List Int} {k : Nat} (h : k < l.length) : (l.map V.int)[k]? = some (.int (iat l k)) := by
  rw [List.getElem?_map, iat_get h]
  rfl
def colsTo (t : Table) (l : List Int) (n : Nat) : Bool := (List.range n).all fun k => isCol t (iat l k) && !(l.take k).contains (iat l k)
def colsGood (t : Table) (l : List Int) : Bool := colsTo t l l.length
theorem colsTo_succ (t : Table) (l : List Int) (n : Nat) : colsTo t l (n + 1) = (colsTo t l n && (isCol t (iat l n) && !(l.take n).contains (iat l n))) := by
  unfold colsTo
  rw [List.range_succ, List.all_append]
  simp
theorem colsTo_no {t : Table} {l : List Int} {n : Nat} (h : n < l.length) (hb : (isCol t (iat l n) && !(l.take n).contains (iat l n)) = false) : colsGood t l = false := by
  unfold colsGood colsTo
  rw [List.all_eq_false]
  exact ⟨n, List.mem_range.mpr h, by rw [hb]; decide⟩
section
variable {P : Program} {w : World} {K : PySem.W.Frag} {mg : Str → Option Value} {base : Heap} {ad : Ads}
theorem fn_is_column (T : Tops K mg ad) : Fn P w K mg base "is_column" 1 ["table", "column"] (spV (A2 fun (x : Table × Int) v u H => isTab K ad x.1 v H ∧ u = .int x.2) fun x => .bl (isCol x.1 x.2)) := by
  refine Fn.mk' T.f_is_column sc_is_column lV2 fun cdv f A outer s H E hr => ⟨_, (pss_one (ps_ret (pe_chain op_le op_lt pe_int (pv 1) (pe_callB call_len_seq (by rfl) T.b_len PySem.boot_len (pa_cons (pe_fld (pv 0) rfl) pa_nil))))), ?_⟩
  rintro vs Q ⟨⟨t, c⟩, ⟨v, u, rfl, ⟨a, ln, lr, ns, rs, rfl, h⟩, rfl⟩, k⟩
  exact Evl.s_ret (ev_bool (ev_leLt ev_c (ev_var rfl) (ev_lenL (ev_names T (ev_var rfl) h) h.nl)) (by rw [len_names h]; rfl)) k
theorem fn_columns_good (T : Tops K mg ad) : Fn P w K mg base "columns_good" 2 ["table", "columns"] (spV (A2 fun (x : Table × List Int) v u H => isTab K ad x.1 v H ∧ x.2.length ≤ 1000 ∧ isL K x.2 u H) fun x => .bl (colsGood x.1 x.2)) := by
  refine Fn.mk' T.f_columns_good sc_columns_good lV2 fun cdv f A outer s H E hr => ⟨_, (pss_cons (ps_for PassesOwn.never rfl (pi_range1 rfl T.b_range (pa_cons (pe_callB call_len_seq (by rfl) T.b_len PySem.boot_len (pa_cons (pv 1) pa_nil)) pa_nil)) (pg_name (i := 2) sc_columns_good.nd rfl (Or.inl rfl)) (pss_one (ps_if (PW.pt (pw_or (pt_not (pt_val (pe_fn (fn_is_column T) (hr.mono (by decide)) (pa_cons (pv 0) (pa_cons (pe_ix ix_list (pv 1) (pv 2) (fun _ _ => rfl)) pa_nil))))) (pw_or1 (pt_cmpR op_in_seq (pe_ix ix_list (pv 1) (pv 2) (fun _ _ => rfl)) (pe_slice sl_list (pv 1) po_none (po_some (pv 2))) rfl)))) (pss_one (ps_ret pe_bl)) pss_nil)))
      (pss_one (ps_ret pe_bl))), ?_⟩
  rintro vs Q ⟨⟨t, l⟩, ⟨v, u, rfl, ht, hz, b, rfl, hl⟩, k⟩
  change l.length ≤ 1000 at hz
  change SqL K H b (l.map V.int) at hl
  refine Evl.q_forR1 (n := l.length) (ea_cons (ev_int (ev_lenL (ev_var rfl) hl) (by rw [List.length_map])) ea_nil) (by omega)
    (fun i σ' H' => Ex H H' ∧ colsTo t l i = true ∧ ∃ vk, σ' = [some v, some (.ref b), vk]) (fun H1 e1 => ⟨e1, rfl, none, rfl⟩) ?_ ?_
  · rintro i σ' H' hi ⟨e, hg, vk, rfl⟩
    have hi' : i < l.length := by omega
    have hl' := SqL.ex e hl
    have hit : Ev (tOp (rIxL K) (tVar 1) (tVar 2)) [some v, some (.ref b), some (.int (i : Nat))] H' (.int (iat l i)) := ev_ixL (ev_var rfl) (ev_var rfl) hl' (atI_nat (int_get hi'))
    have hsl : EvL (tSl (rSlL K) (tVar 1) tNoPart (tPart (tVar 2))) [some v, some (.ref b), some (.int (i : Nat))] H' ((l.take i).map V.int) := by
      have := evl_sl (K := K) (te := tVar 1) (tl := tNoPart) (th := tPart (tVar 2)) (σ := [some v, some (.ref b), some (.int (i : Nat))]) (ev_var rfl) eo_none (eo_some (ev_var rfl)) hl'
      rw [cut_to (by rw [List.length_map]; omega), ← List.map_take] at this
      exact this
    refine Evl.s_when (Evl.et_or (Evl.et_not (et_val (ev_callV (t, iat l i) (ea_cons (ev_var rfl) (ea_cons hit ea_nil)) fun H1 e1 => ⟨_, _, rfl, ht.ex (e.trans e1), rfl⟩))) fun _ => Evl.et_test (ev_inLP hit hsl)) (fun hb H1 e1 => ?_) fun hb H1 e1 => ?_
    · refine Evl.s_ret (ev_bool ev_c ?_) fun H2 e2 => k H2 ((e.trans e1).trans e2)
      show false = colsGood t l
      refine (colsTo_no hi' ?_).symm
      change (!isCol t (iat l i) || (l.take i).contains (iat l i)) = true at hb
      generalize (l.take i).contains (iat l i) = c2 at hb ⊢
      generalize isCol t (iat l i) = c1 at hb ⊢
      revert hb
      cases c1 <;> cases c2 <;> simp
    · refine ⟨e.trans e1, ?_, _, rfl⟩
      rw [colsTo_succ, hg]
      change (!isCol t (iat l i) || (l.take i).contains (iat l i)) = false at hb
      generalize (l.take i).contains (iat l i) = c2 at hb ⊢
      generalize isCol t (iat l i) = c1 at hb ⊢
      revert hb
      cases c1 <;> cases c2 <;> simp
  · rintro σ' H' ⟨e, hg, vk, rfl⟩
    exact Evl.s_ret (ev_bool ev_c (show true = colsGood t l from hg.symm)) fun H2 e2 => k H2 (e.trans e2)
theorem fn_column_cells (T : Tops K mg ad) : Fn P w K mg base "column_cells" 1 ["table", "column"] (spN (A2 fun (x : Table × Nat) v u H => isTab K ad x.1 v H ∧ u = .int (x.2 : Nat) ∧ x.2 < x.1.names.length ∧ Wf x.1) fun x p H => ∃ ys, H p = some (.lst ys) ∧ DpAll K H ys ((Vatdfa.column x.1 x.2).map cD)) := by
  refine Fn.mk' T.f_column_cells sc_column_cells lN2 fun cdv f A outer s H E hr => ⟨_, (pss_one (ps_ret (pe_lc (own := [("row", 2)]) (g := gName 2) (tt := tYes) rfl sc_column_cells.nd (pi_list (pe_fld (pv 0) rfl)) (blkOk_by (N := ["table", "column", "row"]) (sc := defScope s_column_cells) (by decide +kernel)) (fun _ _ _ _ _ => pg_name (i := 2) sc_column_cells.nd rfl (Or.inl rfl)) (fun _ _ _ _ _ => pts_nil) (fun _ _ _ _ _ => (pe_ix (ix_tupK K rfl) (pv 2) (pv 1) (fun _ _ => rfl)))))), ?_⟩
  rintro vs Q ⟨⟨t, c⟩, ⟨v, u, rfl, ⟨a, ln, lr, ns, rs, rfl, h⟩, rfl, hc, hw⟩, k⟩
  obtain ⟨l, e1, e2, e3⟩ := dpAll_pairs h.rd
  have hlen : l.length = t.rows.length := by rw [← e2, List.length_map]
  have h12 := hw.r12
  change t.rows.length ≤ 12 at h12
  refine s_retF (evf_lcD l (·.1) (fun p => cD (VatdfBase.cellAt p.2 c)) (fun p => stab_cD _) (fun H1 e Q q => ev_rows T (ev_var rfl) h H1 e Q fun H2 e2 => q _ H2 e2 ⟨lr, rfl, by rw [e1]; exact SqL.ex (e.trans e2) h.rl⟩) (by omega) (fun _ => rfl) ?_) ?_
  · rintro ⟨x, r⟩ hp H1 e
    obtain ⟨b, xs, rfl, h3, h4⟩ := dp_rD.mp (Dp.ex e (e3 _ hp))
    have hr : r ∈ t.rows := by rw [← e2]; exact List.mem_map.mpr ⟨_, hp, rfl⟩
    obtain ⟨cv, hcv, hd⟩ := cell_in (c := c) h4 (by have := hw.rl r hr; show c < r.length; rw [this]; exact hc)
    exact evp_dp (ev_ixT (ev_var rfl) (ev_var rfl) h3 (atI_nat hcv)) hd
  · rintro p H1 np e ⟨ys, hy, hd⟩
    refine k p H1 np e ⟨ys, hy, ?_⟩
    show DpAll K H1 ys ((Vatdfa.column t c).map cD)
    unfold Vatdfa.column
    rw [← e2, List.map_map, List.map_map]
    exact hd
end
end Tx
end

section
set_option Elab.async false
set_option linter.all false
set_option maxRecDepth 100000
set_option maxHeartbeats 4000000
set_option exponentiation.threshold 100000
namespace Tx
open PySem PySem.Spec PyProof.Rows L2
open Evl (Ex Ev EvL EvU EvT EvA EvO RV ev_c ev_var ea_nil ea_cons eo_none eo_some)
open VatdfBase (Cell Table)
/-- a list of cells at v -/
def isCs (K : PySem.W.Frag) (cs : List Cell) (v : V) (H : Hp) : Prop := Dp K H v (.list (cs.map cD))
def numV : Cell → Int
  | .num z => z
  | _ => 0
theorem numbers_map (l : List (V × Cell)) : (l.filter fun p => Vatdfa.isNum p.2).map (fun p => V.int (numV p.2)) = (Vatdfa.numbersIn (l.map (·.2))).map V.int := by
  induction l with
  | nil => rfl
  | cons p l ih =>
    obtain ⟨v, c⟩ := p
    cases c with
    | empty => exact ih
    | num z =>
      have hn : Vatdfa.isNum (v, Cell.num z).2 = true := rfl
      rw [List.filter_cons, if_pos hn, List.map_cons, ih]
      rfl
    | word u => exact ih
theorem numbers_len (l : List Cell) : (Vatdfa.numbersIn l).length ≤ l.length := List.length_filterMap_le _ _
theorem tag_num (c : Cell) : decide (cTag c = 1) = Vatdfa.isNum c := by cases c <;> rfl
theorem tag_word (c : Cell) : decide (cTag c = 2) = Vatdfa.isWordCell c := by cases c <;> rfl
theorem any_num (l : List Cell) : decide (0 < (Vatdfa.numbersIn l).length) = l.any Vatdfa.isNum := by
  induction l with
  | nil => rfl
  | cons c l ih =>
    cases c with
    | empty => exact ih
    | num z => simp [Vatdfa.numbersIn, Vatdfa.isNum]
    | word u => exact ih
theorem any_filter {α : Type} (p : α → Bool) (l : List α) : decide (0 < (l.filter p).length) = l.any p := by
  induction l with
  | nil => rfl
  | cons c l ih =>
    rw [List.filter_cons, List.any_cons]
    cases h : p c
    · simpa using ih
    · simp
theorem filter_snd (l : List (V × Cell)) (p : Cell → Bool) : (l.filter fun q => p q.2).length = ((l.map (·.2)).filter p).length := by
  rw [List.filter_map, List.length_map]
  rfl
/-- least, greatest, sum -/
theorem foldMin : ∀ (r : List Int) (z : Int), (r.foldl (fun a b => if b < a then b else a) z) ∈ z :: r ∧ ∀ y ∈ z :: r, (r.foldl (fun a b => if b < a then b else a) z) ≤ y
  | [], z => by simp
  | b :: r, z => by
    rw [List.foldl_cons]
    obtain ⟨h1, h2⟩ := foldMin r (if b < z then b else z)
    by_cases h : b < z
    · rw [if_pos h] at h1 h2 ⊢
      refine ⟨List.mem_cons_of_mem _ h1, fun y hy => ?_⟩
      rcases List.mem_cons.mp hy with rfl | hy
      · have := h2 b List.mem_cons_self
        omega
      · exact h2 y hy
    · rw [if_neg h] at h1 h2 ⊢
      refine ⟨?_, fun y hy => ?_⟩
      · rcases List.mem_cons.mp h1 with q | q
        · rw [q]; exact List.mem_cons_self
        · exact List.mem_cons_of_mem _ (List.mem_cons_of_mem _ q)
      · rcases List.mem_cons.mp hy with rfl | hy
        · exact h2 _ List.mem_cons_self
        · rcases List.mem_cons.mp hy with rfl | hy
          · have := h2 z List.mem_cons_self
            omega
          · exact h2 y (List.mem_cons_of_mem _ hy)
theorem foldMax : ∀ (r : List Int) (z : Int), (r.foldl (fun a b => if a < b then b else a) z) ∈ z :: r ∧ ∀ y ∈ z :: r, y ≤ (r.foldl (fun a b => if a < b then b else a) z)
  | [], z => by simp
  | b :: r, z => by
    rw [List.foldl_cons]
    obtain ⟨h1, h2⟩ := foldMax r (if z < b then b else z)
    by_cases h : z < b
    · rw [if_pos h] at h1 h2 ⊢
      refine ⟨List.mem_cons_of_mem _ h1, fun y hy => ?_⟩
      rcases List.mem_cons.mp hy with rfl | hy
      · have := h2 b List.mem_cons_self
        omega
      · exact h2 y hy
    · rw [if_neg h] at h1 h2 ⊢
      refine ⟨?_, fun y hy => ?_⟩
      · rcases List.mem_cons.mp h1 with q | q
        · rw [q]; exact List.mem_cons_self
        · exact List.mem_cons_of_mem _ (List.mem_cons_of_mem _ q)
      · rcases List.mem_cons.mp hy with rfl | hy
        · exact h2 _ List.mem_cons_self
        · rcases List.mem_cons.mp hy with rfl | hy
          · have := h2 z List.mem_cons_self
            omega
          · exact h2 y (List.mem_cons_of_mem _ hy)
theorem foldSum : ∀ (r : List Int) (z : Int), r.foldl (fun a b => a + b) z = z + r.sum
  | [], z => by simp
  | b :: r, z => by
    rw [List.foldl_cons, foldSum r, List.sum_cons]
    omega
theorem once_snoc (l : List Cell) (c : Cell) : Vatdfa.once (l ++ [c]) = if (Vatdfa.once l).contains c then Vatdfa.once l else Vatdfa.once l ++ [c] := by
  unfold Vatdfa.once
  rw [List.foldl_append]
  rfl
theorem once_len (l : List Cell) : (Vatdfa.once l).length ≤ l.length := by
  have : ∀ (l k : List Cell), (l.foldl (fun k x => if k.contains x then k else k ++ [x]) k).length ≤ k.length + l.length := by
    intro l
    induction l with
    | nil => intro k; simp
    | cons c l ih =>
      intro k
      rw [List.foldl_cons]
      refine Nat.le_trans (ih _) ?_
      split
      · simp
      · simp; omega
  have h := this l []
  simp only [List.length_nil, Nat.zero_add] at h
  exact h
theorem any_eqv (l : List Cell) (c : Cell) : ((l.map cD).any fun z => PyData.eqv z (cD c)) = l.contains c := by
  rw [List.any_map, List.contains_eq_any_beq]
  congr 1
  funext x
  show PyData.eqv (cD x) (cD c) = (c == x)
  rw [eqv_cD]
  by_cases h : x = c
  · subst h; simp
  · have h' : ¬ c = x := fun q => h q.symm
    simp [h, h']
section
variable {K : PySem.W.Frag} {H : Hp} {σ : L2.St} {te tb : TE}
theorem ev_tag {a : Addr} {c : Cell} (ha : Ev te σ H (.ref a)) (h : SqT K H a ((cI c).map V.int)) : Ev (tOp (rIxT K) te (tC (.int 0))) σ H (.int (cTag c)) :=
  ev_ixT ha ev_c h (atI_nat (j := 0) (by rw [List.getElem?_map, cell_at]; rfl))
end
section
variable {P : Program} {w : World} {K : PySem.W.Frag} {mg : Str → Option Value} {base : Heap} {ad : Ads}
theorem fn_numbers_of (T : Tops K mg ad) : Fn P w K mg base "numbers_of" 1 ["cells"] (spL (A1 fun (cs : List Cell) v H => cs.length ≤ 1000 ∧ isCs K cs v H) fun cs => (Vatdfa.numbersIn cs).map V.int) := by
  refine Fn.mk' T.f_numbers_of sc_numbers_of lN1 fun cdv f A outer s H E hr => ⟨_, (pss_one (ps_ret (pe_lc (own := [("cell", 1)]) (g := gName 1) rfl sc_numbers_of.nd (pi_list (pv 0)) (blkOk_by (N := ["cells", "cell"]) (sc := defScope s_numbers_of) (by decide +kernel)) (fun _ _ _ _ _ => pg_name (i := 1) sc_numbers_of.nd rfl (Or.inl rfl)) (fun _ _ _ _ _ => pts_one (pt_cmpR op_eq (pe_ix (ix_tupK K rfl) (pv 1) pe_int (fun _ _ => rfl)) pe_int (nomark _))) (fun _ _ _ _ _ => (pe_ix (ix_tupK K rfl) (pv 1) pe_int (fun _ _ => rfl)))))), ?_⟩
  rintro vs Q ⟨cs, ⟨v, rfl, hz, hd⟩, k⟩
  obtain ⟨a, xs, rfl, hs, hx⟩ := dp_list.mp hd
  obtain ⟨l, e1, e2, e3⟩ := dpAll_pairs hx
  have hlen : l.length = cs.length := by rw [← e2, List.length_map]
  refine Evl.s_retL (evl_is (evl_lcF l (·.1) (fun p => Vatdfa.isNum p.2) (fun p => V.int (numV p.2)) (src_L (ev_var rfl) (by rw [e1]; exact hs)) (by omega) (fun _ => rfl) ?_ ?_) (by rw [numbers_map, e2])) k
  · rintro ⟨x, c⟩ hp H1 e
    obtain ⟨b, rfl, hb⟩ := dp_cD.mp (Dp.ex e (e3 _ hp))
    exact Evl.et_is (Evl.et_test (ev_eqI (ev_tag (ev_var rfl) hb) ev_c)) (tag_num c)
  · rintro ⟨x, c⟩ hp hc H1 e
    obtain ⟨b, rfl, hb⟩ := dp_cD.mp (Dp.ex e (e3 _ hp))
    cases c with
    | empty => cases hc
    | num z => exact ev_ixT (ev_var rfl) ev_c hb (atI_nat (j := 1) rfl)
    | word u => cases hc
theorem fn_words_of (T : Tops K mg ad) : Fn P w K mg base "words_of" 1 ["cells"] (spN (A1 fun (cs : List Cell) v H => cs.length ≤ 1000 ∧ isCs K cs v H) fun cs p H => ∃ ys, H p = some (.lst ys) ∧ ys.length = (cs.filter Vatdfa.isWordCell).length) := by
  refine Fn.mk' T.f_words_of sc_words_of lN1 fun cdv f A outer s H E hr => ⟨_, (pss_one (ps_ret (pe_lc (own := [("cell", 1)]) (g := gName 1) rfl sc_words_of.nd (pi_list (pv 0)) (blkOk_by (N := ["cells", "cell"]) (sc := defScope s_words_of) (by decide +kernel)) (fun _ _ _ _ _ => pg_name (i := 1) sc_words_of.nd rfl (Or.inl rfl)) (fun _ _ _ _ _ => pts_one (pt_cmpR op_eq (pe_ix (ix_tupK K rfl) (pv 1) pe_int (fun _ _ => rfl)) pe_int (nomark _))) (fun _ _ _ _ _ => (pv 1))))), ?_⟩
  rintro vs Q ⟨cs, ⟨v, rfl, hz, hd⟩, k⟩
  obtain ⟨a, xs, rfl, hs, hx⟩ := dp_list.mp hd
  obtain ⟨l, e1, e2, e3⟩ := dpAll_pairs hx
  have hlen : l.length = cs.length := by rw [← e2, List.length_map]
  refine Evl.s_retL (evl_lcF l (·.1) (fun p => Vatdfa.isWordCell p.2) (·.1) (src_L (ev_var rfl) (by rw [e1]; exact hs)) (by omega) (fun _ => rfl) ?_ ?_) fun p H1 np e hp => k p H1 np e ⟨_, hp, by rw [List.length_map, filter_snd, e2]⟩
  · rintro ⟨x, c⟩ hp H1 e
    obtain ⟨b, rfl, hb⟩ := dp_cD.mp (Dp.ex e (e3 _ hp))
    exact Evl.et_is (Evl.et_test (ev_eqI (ev_tag (ev_var rfl) hb) ev_c)) (tag_word c)
  · rintro ⟨x, c⟩ hp hc H1 e
    exact ev_var rfl
theorem fn_kind_of (T : Tops K mg ad) : Fn P w K mg base "kind_of" 2 ["cells"] (spV (A1 fun (cs : List Cell) v H => cs.length ≤ 1000 ∧ isCs K cs v H) fun cs => .int (Vatdfa.kindOf cs : Nat)) := by
  refine Fn.mk' T.f_kind_of sc_kind_of lV1 fun cdv f A outer s H E hr => ⟨_, (pss_cons (ps_set (i := 1) sc_kind_of.nd rfl (Or.inl rfl) pe_int)
      (pss_cons (ps_if (pt_cmpR op_gt (pe_callB call_len_seq (by rfl) T.b_len PySem.boot_len (pa_cons (pe_fn (fn_numbers_of T) (hr.mono (by decide)) (pa_cons (pv 0) pa_nil)) pa_nil)) pe_int (nomark _)) (pss_one (ps_aug (i := 1) sc_kind_of.nd rfl (Or.inl rfl) pe_int ip_add)) pss_nil)
      (pss_cons (ps_if (pt_cmpR op_gt (pe_callB call_len_seq (by rfl) T.b_len PySem.boot_len (pa_cons (pe_fn (fn_words_of T) (hr.mono (by decide)) (pa_cons (pv 0) pa_nil)) pa_nil)) pe_int (nomark _)) (pss_one (ps_aug (i := 1) sc_kind_of.nd rfl (Or.inl rfl) pe_int ip_add)) pss_nil)
      (pss_one (ps_ret (pv 1)))))), ?_⟩
  rintro vs Q ⟨cs, ⟨v, rfl, hz, hd⟩, k⟩
  refine Evl.q_asg ev_c fun H1 e1 => ?_
  have hN : ∀ σ' H', Ex H H' → σ'[0]? = some (some v) → Ev (tCB (fun xs H Q => ∃ p ys, xs = [.ref p] ∧ (SqL K H p ys ∨ SqT K H p ys) ∧ Q (.int ys.length) H) (tCons (tCall (spL (A1 fun (cs : List Cell) v H => cs.length ≤ 1000 ∧ isCs K cs v H) fun cs => (Vatdfa.numbersIn cs).map V.int) [] E0 (tCons (tVar 0) tNil)) tNil)) σ' H' (.int (Vatdfa.numbersIn cs).length) := fun σ' H' e hσ =>
    ev_lenG ((evl_P (evl_callL cs (ea_cons (ev_var hσ) ea_nil) fun H2 e2 => ⟨v, rfl, hz, Dp.ex (e.trans e2) hd⟩)).imp fun v H2 _ ⟨b, h1, h2⟩ => ⟨b, _, h1, .inl (SqL.of h2), by rw [List.length_map]⟩)
  have hW : ∀ σ' H', Ex H H' → σ'[0]? = some (some v) → Ev (tCB (fun xs H Q => ∃ p ys, xs = [.ref p] ∧ (SqL K H p ys ∨ SqT K H p ys) ∧ Q (.int ys.length) H) (tCons (tCall (spN (A1 fun (cs : List Cell) v H => cs.length ≤ 1000 ∧ isCs K cs v H) fun cs p H => ∃ ys, H p = some (.lst ys) ∧ ys.length = (cs.filter Vatdfa.isWordCell).length) [] E0 (tCons (tVar 0) tNil)) tNil)) σ' H' (.int (cs.filter Vatdfa.isWordCell).length) := fun σ' H' e hσ =>
    ev_lenG ((evp_F (evf_callN cs (ea_cons (ev_var hσ) ea_nil) fun H2 e2 => ⟨v, rfl, hz, Dp.ex (e.trans e2) hd⟩)).imp fun v H2 _ ⟨p, h0, ys, h1, h2⟩ => ⟨p, ys, h0, .inl (SqL.of h1), by rw [h2]⟩)
  have fin : ∀ (x : Int) (H' : Hp), Ex H H' → x = (if cs.any Vatdfa.isNum then 1 else 0 : Nat) → (tSeq (tIfS (tTest (tOp (rI0 fun i j => V.bl (decide (j < i))) (tCB (fun xs H Q => ∃ p ys, xs = [.ref p] ∧ (SqL K H p ys ∨ SqT K H p ys) ∧ Q (.int ys.length) H) (tCons (tCall (spN (A1 fun (cs : List Cell) v H => cs.length ≤ 1000 ∧ isCs K cs v H) fun cs p H => ∃ ys, H p = some (.lst ys) ∧ ys.length = (cs.filter Vatdfa.isWordCell).length) [] E0 (tCons (tVar 0) tNil)) tNil)) (tC (.int 0)))) (tAug 1 (tC (.int 2)) (ipI fun i j => i + j)) tNext) (tRet (tVar 1))) { nx := fun _ H' => Q .non H', rt := Q } [some v, some (.int x)] H' := by
    intro x H' e hx
    refine Evl.q_when (Evl.et_test (ev_I0 (hW _ _ e rfl) ev_c)) (fun hb H2 e2 => ?_) fun hb H2 e2 => ?_
    · refine Evl.s_aug rfl ev_c fun H3 e3 => Evl.s_ret (ev_int (ev_var rfl) ?_) fun H4 e4 => k H4 (((e.trans e2).trans e3).trans e4)
      have ha : cs.any Vatdfa.isWordCell = true := by rw [← any_filter]; rw [decide_eq_true_eq] at hb ⊢; omega
      unfold Vatdfa.kindOf
      rw [ha, hx]
      rfl
    · refine Evl.s_ret (ev_int (ev_var rfl) ?_) fun H4 e4 => k H4 ((e.trans e2).trans e4)
      have ha : cs.any Vatdfa.isWordCell = false := by rw [← any_filter]; rw [decide_eq_false_iff_not] at hb ⊢; omega
      unfold Vatdfa.kindOf
      rw [ha, hx]
      rfl
  refine Evl.q_when (Evl.et_test (ev_I0 (hN _ _ e1 rfl) ev_c)) (fun hb H2 e2 => ?_) fun hb H2 e2 => ?_
  · refine Evl.s_aug rfl ev_c fun H3 e3 => fin _ H3 ((e1.trans e2).trans e3) ?_
    have ha : cs.any Vatdfa.isNum = true := by rw [← any_num]; rw [decide_eq_true_eq] at hb ⊢; omega
    rw [ha]
    rfl
  · refine fin _ H2 (e1.trans e2) ?_
    have ha : cs.any Vatdfa.isNum = false := by rw [← any_num]; rw [decide_eq_false_iff_not] at hb ⊢; omega
    rw [ha]
    rfl
theorem dEMPTY (T : Tops K mg ad) (H : Hp) : Dp K H (.ref ad.EMPTY) (cD .empty) := dp_cD.mpr ⟨_, rfl, T.d_EMPTY H⟩
theorem fn_how_many_empty (T : Tops K mg ad) : Fn P w K mg base "how_many_empty" 1 ["cells"] (spV (A1 fun (cs : List Cell) v H => cs.length ≤ 1000 ∧ isCs K cs v H) fun cs => .int (cs.countP fun c => c == .empty : Nat)) := by
  refine Fn.mk' T.f_how_many_empty sc_how_many_empty lV1 fun cdv f A outer s H E hr => ⟨_, (pss_one (ps_ret (pe_callB call_len_seq (by rfl) T.b_len PySem.boot_len (pa_cons (pe_lc (own := [("cell", 1)]) (g := gName 1) rfl sc_how_many_empty.nd (pi_list (pv 0)) (blkOk_by (N := ["cells", "cell"]) (sc := defScope s_how_many_empty) (by decide +kernel)) (fun _ _ _ _ _ => pg_name (i := 1) sc_how_many_empty.nd rfl (Or.inl rfl)) (fun _ _ _ _ _ => pts_one (pt_cmpR (op_eqDK K rfl hr.units) (pv 1) (pe_gr T.c_EMPTY) (nomark _))) (fun _ _ _ _ _ => (pv 1))) pa_nil)))), ?_⟩
  rintro vs Q ⟨cs, ⟨v, rfl, hz, hd⟩, k⟩
  obtain ⟨a, xs, rfl, hs, hx⟩ := dp_list.mp hd
  obtain ⟨l, e1, e2, e3⟩ := dpAll_pairs hx
  have hlen : l.length = cs.length := by rw [← e2, List.length_map]
  refine Evl.s_ret (ev_int (ev_lenG ((evl_P (evl_lcF l (·.1) (fun p => p.2 == .empty) (·.1) (src_L (ev_var rfl) (by rw [e1]; exact hs)) (by omega) (fun _ => rfl) ?_ fun p hp hc H1 e => ev_var rfl)).imp fun v H2 _ ⟨b, h1, h2⟩ => ⟨b, _, h1, .inl (SqL.of h2), rfl⟩)) ?_) k
  · rintro ⟨x, c⟩ hp H1 e
    refine Evl.et_test (ev_eqD (evp_dp (ev_var rfl) (Dp.ex e (e3 _ hp))) (evp_dp ev_c (dEMPTY T H1)) (shaped_cD _) (shaped_cD _) ?_)
    show PyData.eqv (cD c) (cD .empty) = (c == .empty)
    rw [eqv_cD]
    by_cases h : c = .empty
    · subst h; rfl
    · rw [decide_eq_false h]
      exact (beq_eq_false_iff_ne.mpr h).symm
  · rw [List.length_map, filter_snd l (fun c => c == .empty), e2, List.countP_eq_length_filter]
theorem fn_how_many_unlike (T : Tops K mg ad) : Fn P w K mg base "how_many_unlike" 1 ["cells"] (spV (A1 fun (cs : List Cell) v H => cs.length ≤ 1000 ∧ isCs K cs v H) fun cs => .int ((Vatdfa.once cs).length : Nat)) := by
  refine Fn.mk' T.f_how_many_unlike sc_how_many_unlike lV1 fun cdv f A outer s H E hr => ⟨_, (pss_cons (ps_set (i := 1) sc_how_many_unlike.nd rfl (Or.inl rfl) (pe_lst pa_nil))
      (pss_cons (ps_for PassesOwn.never rfl (pi_list (pv 0)) (pg_name (i := 2) sc_how_many_unlike.nd rfl (Or.inl rfl)) (pss_one (ps_if (pt_cmpR (op_notInD (hu65 hr)) (pv 2) (pv 1) rfl) (pss_one (ps_expr (pe_bm PySem.F.plainAttrs_list PySem.F.slot_list_append PySem.F.type_list_append mt_append (pv 1) (pa_cons (pv 2) pa_nil)))) pss_nil)))
      (pss_one (ps_ret (pe_callB call_len_seq (by rfl) T.b_len PySem.boot_len (pa_cons (pv 1) pa_nil)))))), ?_⟩
  rintro vs Q ⟨cs, ⟨v, rfl, hz, hd⟩, k⟩
  obtain ⟨a, xs, rfl, hs, hx⟩ := dp_list.mp hd
  have hxl : xs.length = cs.length := by have := DpAll.len hx; rwa [List.length_map] at this
  refine Evl.q_asgL (Evl.el_lst ea_nil (Nat.zero_le _)) fun p H1 np e1 hp => ?_
  refine Evl.q_forLn (ev_var rfl) (SqL.ex e1 hs) (fun i σ' H' => Ex H H' ∧ (∃ ys, H' p = some (.lst ys) ∧ DpAll K H' ys ((Vatdfa.once (cs.take i)).map cD)) ∧ ∃ vc, σ' = [some (.ref a), some (.ref p), vc])
    (fun H2 e2 => ⟨e1.trans e2, ⟨[], e2 _ _ hp, .nil⟩, none, rfl⟩) (fun i σ' H' _ h => SqL.ex h.1 hs) ?_ ?_
  · rintro i x σ' H' hi ⟨e, ⟨ys, hy, hyd⟩, vc, rfl⟩
    obtain ⟨d, hd1, hd2⟩ := DpAll.at hx hi
    obtain ⟨c, hc, rfl⟩ := get_map hd1
    have hxd : Dp K H' x (cD c) := Dp.ex e hd2
    have hlen : ys.length ≤ 1000 := by
      have h1 := DpAll.len hyd
      rw [List.length_map] at h1
      have h2 := once_len (cs.take i)
      rw [List.length_take] at h2
      omega
    refine Evl.s_when (Evl.et_test (ev_niD (evp_dp (ev_var rfl) hxd) (evp_dp (ev_var rfl) (dp_list.mpr ⟨p, ys, rfl, SqL.of hy, hyd⟩)) (shaped_cD c) (shaped_list lay_cD depth_cD (by decide) _) (any_eqv _ c))) (fun hb H2 e2 => ?_) fun hb H2 e2 => ?_
    · rw [Bool.not_eq_true'] at hb
      refine Evl.s_app (e2 _ _ hy) (ev_var rfl) (ev_var rfl) (by omega) fun H3 e3 => ⟨Ex.mut ((e.trans e2).trans e3) np, ⟨ys ++ [x], upd_same, ?_⟩, _, rfl⟩
      rw [take_succ_get hc, once_snoc, hb, if_neg (by decide), List.map_append]
      have e23 := e2.trans e3
      exact DpAll.app (stabAll (stab_map stab_cD _) (e23 _ _ hy) (DpAll.ex e23 hyd)) (DpAll.one (stab_cD c _ _ _ _ _ (e23 _ _ hy) (Dp.ex e23 hxd)))
    · rw [Bool.not_eq_false'] at hb
      refine ⟨e.trans e2, ⟨ys, e2 _ _ hy, ?_⟩, _, rfl⟩
      rw [take_succ_get hc, once_snoc, hb, if_pos rfl]
      exact DpAll.ex e2 hyd
  · rintro σ' H' ⟨e, ⟨ys, hy, hyd⟩, vc, rfl⟩
    rw [hxl, List.take_length] at hyd
    refine Evl.s_ret (ev_int (ev_lenL (ev_var rfl) (SqL.of hy)) ?_) fun H2 e2 => k H2 (e.trans e2)
    have := DpAll.len hyd
    rw [List.length_map] at this
    rw [this]
end
end Tx
end

section
set_option Elab.async false
set_option linter.all false
set_option maxRecDepth 100000
set_option maxHeartbeats 4000000
set_option exponentiation.threshold 100000
namespace Tx
open PySem PySem.Spec PyProof.Rows L2
open Evl (Ex Ev EvL EvU EvT EvA EvO RV ev_c ev_var ea_nil ea_cons eo_none eo_some)
open VatdfBase (Cell Table)
section
variable {K : PySem.W.Frag} {H : Hp}
/-- cells of a list stay where another list changes -/
theorem keep_cells {p q : Addr} {ys zs zs' : List V} {ds : List PyData} (st : ∀ d ∈ ds, Stab K d) (hp : H p = some (.lst ys)) (hd : DpAll K H ys ds) (hq : H q = some (.lst zs)) (hne : p ≠ q) :
    upd H q (.lst zs') p = some (.lst ys) ∧ DpAll K (upd H q (.lst zs')) ys ds := ⟨by rw [upd_ne hne]; exact hp, stabAll st hq hd⟩
end
def pD (p : Nat × Nat) : PyData := .tuple (([(p.1 : Int), (p.2 : Int)] : List Int).map .int)
theorem stab_pD {K : PySem.W.Frag} (p : Nat × Nat) : Stab K (pD p) := stab_ints _
def spotsRow (t : Table) (v : Cell) (i n : Nat) : List (Nat × Nat) := ((List.range n).filter fun c => t.cell i c == v).map fun c => (i, c)
def spotsTo (t : Table) (v : Cell) (m : Nat) : List (Nat × Nat) := (List.range m).flatMap fun i => spotsRow t v i t.names.length
theorem spotsRow_succ (t : Table) (v : Cell) (i n : Nat) : spotsRow t v i (n + 1) = spotsRow t v i n ++ (if (t.cell i n == v) = true then [(i, n)] else []) := by
  unfold spotsRow
  rw [List.range_succ, List.filter_append, List.map_append]
  congr 1
  by_cases h : (t.cell i n == v) = true
  · rw [if_pos h, List.filter_cons, if_pos h]; rfl
  · rw [if_neg h, List.filter_cons, if_neg h]; rfl
theorem spotsTo_succ (t : Table) (v : Cell) (m : Nat) : spotsTo t v (m + 1) = spotsTo t v m ++ spotsRow t v m t.names.length := by
  unfold spotsTo
  rw [List.range_succ, List.flatMap_append]
  simp
theorem spots_is (t : Table) (v : Cell) : spotsTo t v t.rows.length = Vatdfa.spotsOf t v := rfl
theorem spotsRow_len (t : Table) (v : Cell) (i n : Nat) : (spotsRow t v i n).length ≤ n := by
  unfold spotsRow
  rw [List.length_map]
  have := List.length_filter_le (fun c => t.cell i c == v) (List.range n)
  rwa [List.length_range] at this
theorem spotsTo_len (t : Table) (v : Cell) : ∀ m, (spotsTo t v m).length ≤ m * t.names.length
  | 0 => by simp [spotsTo]
  | m + 1 => by
    rw [spotsTo_succ, List.length_append, Nat.succ_mul]
    have := spotsTo_len t v m
    have := spotsRow_len t v m t.names.length
    omega
theorem row_eq {t : Table} {i : Nat} {r : TRow} (h : t.rows[i]? = some r) (c : Nat) : t.cell i c = VatdfBase.cellAt r c := by
  unfold VatdfBase.Table.cell VatdfBase.Table.row
  rw [h]
  rfl
section
variable {P : Program} {w : World} {K : PySem.W.Frag} {mg : Str → Option Value} {base : Heap} {ad : Ads}
theorem name_len {t : Table} {u : List Nat} (hw : Wf t) (h : u ∈ t.names) : u.length ≤ 8 := by
  have := hw.nm u h
  unfold VatdfBase.isName VatdfBase.NAME at this
  rw [Bool.and_eq_true, decide_eq_true_eq] at this
  exact this.1
theorem told_len {cs : List Cell} : (Vatdfa.columnTold cs).length ≤ 6 := by
  unfold Vatdfa.columnTold
  cases Vatdfa.numbersIn cs <;> simp
def colTold (t : Table) (c : Nat) : List Int := Vatdfa.listed ((t.names[c]?).getD []) ++ Vatdfa.columnTold (Vatdfa.column t c)
theorem fn_column_told (T : Tops K mg ad) : Fn P w K mg base "column_told" 3 ["table", "column"] (spL (A2 fun (x : Table × Nat) v u H => isTab K ad x.1 v H ∧ u = .int (x.2 : Nat) ∧ x.2 < x.1.names.length ∧ Wf x.1) fun x => (colTold x.1 x.2).map V.int) := by
  refine Fn.mk' T.f_column_told sc_column_told lN2 fun cdv f A outer s H E hr => ⟨_, (pss_cons (ps_set (i := 2) sc_column_told.nd rfl (Or.inl rfl) (pe_fn (fn_column_cells T) (hr.mono (by decide)) (pa_cons (pv 0) (pa_cons (pv 1) pa_nil))))
      (pss_cons (ps_set (i := 3) sc_column_told.nd rfl (Or.inl rfl) (pe_fn (fn_told_bytes T) (hr.mono (by decide)) (pa_cons (pe_ix ix_list (pe_fld (pv 0) rfl) (pv 1) (fun _ _ => rfl)) pa_nil)))
      (pss_cons (ps_expr (pe_bm PySem.F.plainAttrs_list PySem.F.slot_list_append PySem.F.type_list_append mt_append (pv 3) (pa_cons (pe_fn (fn_kind_of T) (hr.mono (by decide)) (pa_cons (pv 2) pa_nil)) pa_nil)))
      (pss_cons (ps_expr (pe_bm PySem.F.plainAttrs_list PySem.F.slot_list_append PySem.F.type_list_append mt_append (pv 3) (pa_cons (pe_fn (fn_how_many_empty T) (hr.mono (by decide)) (pa_cons (pv 2) pa_nil)) pa_nil)))
      (pss_cons (ps_expr (pe_bm PySem.F.plainAttrs_list PySem.F.slot_list_append PySem.F.type_list_append mt_append (pv 3) (pa_cons (pe_fn (fn_how_many_unlike T) (hr.mono (by decide)) (pa_cons (pv 2) pa_nil)) pa_nil)))
      (pss_cons (ps_set (i := 4) sc_column_told.nd rfl (Or.inl rfl) (pe_fn (fn_numbers_of T) (hr.mono (by decide)) (pa_cons (pv 2) pa_nil)))
      (pss_cons (ps_if (pt_cmpR op_gt (pe_callB call_len_seq (by rfl) T.b_len PySem.boot_len (pa_cons (pv 4) pa_nil)) pe_int (nomark _)) (pss_one (ps_expr (pe_bm PySem.F.plainAttrs_list PySem.F.slot_list_extend PySem.F.type_list_extend mt_extend (pv 3) (pa_cons (pe_lst (pa_cons (pe_callB (cr_min rfl) (by rfl) T.b_min (by decide +kernel) (pa_cons (pv 4) pa_nil)) (pa_cons (pe_callB (cr_max rfl) (by rfl) T.b_max (by decide +kernel) (pa_cons (pv 4) pa_nil)) (pa_cons (pe_callB (cr_sum rfl) (by rfl) T.b_sum (by decide +kernel) (pa_cons (pv 4) pa_nil)) pa_nil)))) pa_nil)))) pss_nil)
      (pss_one (ps_ret (pv 3)))))))))), ?_⟩
  rintro vs Q ⟨⟨t, c⟩, ⟨v, u, rfl, ⟨a, ln, lr, ns, rs, rfl, h⟩, rfl, hc, hw⟩, k⟩
  change c < t.names.length at hc
  change Wf t at hw
  change TabAt K ad H t a ln lr ns rs at h
  have hcl : (Vatdfa.column t c).length ≤ 12 := by unfold Vatdfa.column; rw [List.length_map]; exact hw.r12
  refine q_asgF (evf_callN (t, c) (ea_cons (ev_var rfl) (ea_cons (ev_var rfl) ea_nil)) fun H1 e1 => ⟨_, _, rfl, ⟨a, ln, lr, ns, rs, rfl, h.ex e1⟩, rfl, hc, hw⟩) ?_
  rintro p H1 np e1 ⟨ys, hy, hyd⟩
  change DpAll K H1 ys ((Vatdfa.column t c).map cD) at hyd
  obtain ⟨nm, hnm⟩ : ∃ nm, t.names[c]? = some nm := ⟨_, List.getElem?_eq_getElem hc⟩
  have hn8 := name_len hw (List.mem_of_getElem? hnm)
  have h1 := h.ex e1
  obtain ⟨b, hb1, hb2⟩ := name_at h1 hnm
  refine Evl.q_asgL (evl_callL nm (ea_cons (ev_ixL (ev_names T (ev_var rfl) h1) (ev_var rfl) h1.nl (atI_nat hb1)) ea_nil) fun H2 e2 => ⟨_, rfl, by omega, b, rfl, SqT.ex e2 hb2⟩) fun q H2 nq e2 hq => ?_
  have hpq : p ≠ q := fun z => by rw [← z, hy] at nq; cases nq
  have np' : H q = none := Evl.fresh_back e1 nq
  have hy2 := e2 _ _ hy
  have hyd2 := DpAll.ex e2 hyd
  have hf : ((VatdfFlat.flatBytes nm).map V.int).length ≤ 9 := by simp [VatdfFlat.flatBytes, VatdfFlat.ints]; omega
  have st := stab_map (K := K) stab_cD (Vatdfa.column t c)
  -- kind, empty, unlike
  refine Evl.q_app hq (ev_var rfl) (ev_callV (Vatdfa.column t c) (ea_cons (ev_var rfl) ea_nil) fun H3 e3 => ⟨_, rfl, by omega, dp_list.mpr ⟨p, ys, rfl, SqL.of (e3 _ _ hy2), DpAll.ex e3 hyd2⟩⟩) (by omega) fun H3 e3 => ?_
  obtain ⟨hy3, hyd3⟩ := keep_cells (zs' := (VatdfFlat.flatBytes nm).map V.int ++ [.int (Vatdfa.kindOf (Vatdfa.column t c) : Nat)]) st (e3 _ _ hy2) (DpAll.ex e3 hyd2) (e3 _ _ hq) hpq
  have ex3 : Ex H (upd H3 q (.lst ((VatdfFlat.flatBytes nm).map V.int ++ [.int (Vatdfa.kindOf (Vatdfa.column t c) : Nat)]))) := Ex.mut ((e1.trans e2).trans e3) np'
  refine Evl.q_app upd_same (ev_var rfl) (ev_callV (Vatdfa.column t c) (ea_cons (ev_var rfl) ea_nil) fun H4 e4 => ⟨_, rfl, by omega, dp_list.mpr ⟨p, ys, rfl, SqL.of (e4 _ _ hy3), DpAll.ex e4 hyd3⟩⟩) (by rw [List.length_append]; show _ + 1 < _; omega) fun H4 e4 => ?_
  obtain ⟨hy4, hyd4⟩ := keep_cells (zs' := (VatdfFlat.flatBytes nm).map V.int ++ [.int (Vatdfa.kindOf (Vatdfa.column t c) : Nat)] ++ [.int ((Vatdfa.column t c).countP fun c => c == .empty : Nat)]) st (e4 _ _ hy3) (DpAll.ex e4 hyd3) (e4 _ _ upd_same) hpq
  have ex4 := Ex.mut (o := .lst ((VatdfFlat.flatBytes nm).map V.int ++ [.int (Vatdfa.kindOf (Vatdfa.column t c) : Nat)] ++ [.int ((Vatdfa.column t c).countP fun c => c == .empty : Nat)])) (ex3.trans e4) np'
  refine Evl.q_app upd_same (ev_var rfl) (ev_callV (Vatdfa.column t c) (ea_cons (ev_var rfl) ea_nil) fun H5 e5 => ⟨_, rfl, by omega, dp_list.mpr ⟨p, ys, rfl, SqL.of (e5 _ _ hy4), DpAll.ex e5 hyd4⟩⟩) (by rw [List.length_append, List.length_append]; show _ + 1 + 1 < _; omega) fun H5 e5 => ?_
  obtain ⟨hy5, hyd5⟩ := keep_cells (zs' := (VatdfFlat.flatBytes nm).map V.int ++ [.int (Vatdfa.kindOf (Vatdfa.column t c) : Nat)] ++ [.int ((Vatdfa.column t c).countP fun c => c == .empty : Nat)] ++ [.int ((Vatdfa.once (Vatdfa.column t c)).length : Nat)]) st (e5 _ _ hy4) (DpAll.ex e5 hyd4) (e5 _ _ upd_same) hpq
  have ex5 := Ex.mut (o := .lst ((VatdfFlat.flatBytes nm).map V.int ++ [.int (Vatdfa.kindOf (Vatdfa.column t c) : Nat)] ++ [.int ((Vatdfa.column t c).countP fun c => c == .empty : Nat)] ++ [.int ((Vatdfa.once (Vatdfa.column t c)).length : Nat)])) (ex4.trans e5) np'
  -- numbers
  refine Evl.q_asgL (evl_callL (Vatdfa.column t c) (ea_cons (ev_var rfl) ea_nil) fun H6 e6 => ⟨_, rfl, by omega, dp_list.mpr ⟨p, ys, rfl, SqL.of (e6 _ _ hy5), DpAll.ex e6 hyd5⟩⟩) fun m H6 nm6 e6 hm => ?_
  have hbase : colTold t c = VatdfFlat.flatBytes nm ++ ([((Vatdfa.kindOf (Vatdfa.column t c) : Nat) : Int), (((Vatdfa.column t c).countP fun c => c == .empty : Nat) : Int), ((Vatdfa.once (Vatdfa.column t c)).length : Nat)] ++ (match Vatdfa.numbersIn (Vatdfa.column t c) with
      | [] => []
      | z :: r => [r.foldl (fun a b => if b < a then b else a) z, r.foldl (fun a b => if a < b then b else a) z, (z :: r).foldl (fun a b => a + b) 0])) := by
    unfold colTold
    rw [hnm]
    rfl
  refine Evl.q_when (Evl.et_test (ev_I0 (ev_int (ev_lenL (ev_var rfl) (SqL.of hm)) (by rw [List.length_map])) ev_c)) (fun hb6 H7 e7 => ?_) fun hb6 H7 e7 => ?_
  · rw [decide_eq_true_eq] at hb6
    cases hN : Vatdfa.numbersIn (Vatdfa.column t c) with
    | nil => rw [hN] at hb6; simp at hb6
    | cons z r =>
      rw [hN] at hm hb6 hbase
      have hm7 := e7 _ _ hm
      obtain ⟨a1, a2⟩ := foldMin r z
      obtain ⟨b1, b2⟩ := foldMax r z
      refine s_ext (e7 _ _ (e6 _ _ upd_same)) (ev_var rfl) (evl_P (Evl.el_lst (ea_cons (ev_min (ev_var rfl) (SqL.of hm7) (by simp) fun x h1 h2 => Int.le_antisymm (h2 _ a1) (a2 x h1)) (ea_cons (ev_max (ev_var rfl) (SqL.of hm7) (by simp) fun x h1 h2 => Int.le_antisymm (b2 x h1) (h2 _ b1)) (ea_cons (ev_sum (ev_var rfl) (SqL.of hm7)) ea_nil))) (by show 3 ≤ 100000; decide))) ?_ fun H8 e8 => ?_
      · rw [List.length_append, List.length_append, List.length_append]
        show _ + 1 + 1 + 1 + 3 ≤ _
        exact Evl.sz_of (by omega)
      · refine Evl.s_ret (ev_var rfl) fun H9 e9 => k q H9 np' ((Ex.mut (((ex5.trans e6).trans e7).trans e8) np').trans e9) (e9 _ _ ?_)
        rw [upd_same]
        show _ = some (HO.lst ((colTold t c).map V.int))
        rw [hbase]
        have e0 : (z :: r).foldl (fun a b => a + b) 0 = (z :: r).sum := by rw [foldSum]; omega
        dsimp only
        rw [e0]
        simp
  · rw [decide_eq_false_iff_not] at hb6
    cases hN : Vatdfa.numbersIn (Vatdfa.column t c) with
    | cons z r => rw [hN] at hb6; exact absurd (by simp) hb6
    | nil =>
      rw [hN] at hbase
      refine Evl.s_ret (ev_var rfl) fun H9 e9 => k q H9 np' (((ex5.trans e6).trans e7).trans e9) (e9 _ _ (e7 _ _ (e6 _ _ ?_)))
      rw [upd_same]
      show _ = some (HO.lst ((colTold t c).map V.int))
      rw [hbase]
      simp
theorem fn_found (T : Tops K mg ad) : Fn P w K mg base "found" 1 ["table", "cell"] (spN (A2 fun (x : Table × Cell) v u H => isTab K ad x.1 v H ∧ Dp K H u (cD x.2) ∧ Wf x.1) fun x p H => ∃ ys, H p = some (.lst ys) ∧ DpAll K H ys ((Vatdfa.spotsOf x.1 x.2).map pD)) := by
  refine Fn.mk' T.f_found sc_found lN2 fun cdv f A outer s H E hr => ⟨_, (pss_cons (ps_set (i := 2) sc_found.nd rfl (Or.inl rfl) (pe_lst pa_nil))
      (pss_cons (ps_for PassesOwn.never rfl (pi_range1 rfl T.b_range (pa_cons (pe_callB call_len_seq (by rfl) T.b_len PySem.boot_len (pa_cons (pe_fld (pv 0) rfl) pa_nil)) pa_nil)) (pg_name (i := 3) sc_found.nd rfl (Or.inl rfl)) (pss_cons (ps_set (i := 4) sc_found.nd rfl (Or.inl rfl) (pe_ix ix_list (pe_fld (pv 0) rfl) (pv 3) (fun _ _ => rfl)))
      (pss_one (ps_for PassesOwn.never rfl (pi_range1 rfl T.b_range (pa_cons (pe_callB call_len_seq (by rfl) T.b_len PySem.boot_len (pa_cons (pv 4) pa_nil)) pa_nil)) (pg_name (i := 5) sc_found.nd rfl (Or.inl rfl)) (pss_one (ps_if (pt_cmpR (op_eqD hr.units) (pe_ix ix_tup (pv 4) (pv 5) (fun _ _ => rfl)) (pv 1) (nomark _)) (pss_one (ps_expr (pe_bm PySem.F.plainAttrs_list PySem.F.slot_list_append PySem.F.type_list_append mt_append (pv 2) (pa_cons (pe_tup (pa_cons (pv 3) (pa_cons (pv 5) pa_nil))) pa_nil)))) pss_nil))))))
      (pss_one (ps_ret (pv 2))))), ?_⟩
  rintro vs Q ⟨⟨t, c⟩, ⟨v, u, rfl, ⟨a, ln, lr, ns, rs, rfl, h⟩, hd, hw⟩, k⟩
  change Wf t at hw
  change TabAt K ad H t a ln lr ns rs at h
  change Dp K H u (cD c) at hd
  have h12 := hw.r12
  have h5 := hw.n5
  refine Evl.q_asgL (Evl.el_lst ea_nil (Nat.zero_le _)) fun p H1 np e1 hp => ?_
  refine Evl.q_forR1 (n := t.rows.length) (ea_cons (ev_int (ev_lenL (ev_rows T (ev_var rfl) (h.ex e1)) (h.ex e1).rl) (by rw [len_rows h])) ea_nil) (by omega)
    (fun i σ' H' => Ex H H' ∧ (∃ ys, H' p = some (.lst ys) ∧ DpAll K H' ys ((spotsTo t c i).map pD)) ∧ ∃ x3 x4 x5, σ' = [some (.ref a), some u, some (.ref p), x3, x4, x5])
    (fun H2 e2 => ⟨e1.trans e2, ⟨[], e2 _ _ hp, .nil⟩, none, none, none, rfl⟩) ?_ ?_
  · rintro i σ' H' hi ⟨e, ⟨ys, hy, hyd⟩, x3, x4, x5, rfl⟩
    have hi' : i < t.rows.length := by omega
    obtain ⟨r, hr⟩ : ∃ r, t.rows[i]? = some r := ⟨_, List.getElem?_eq_getElem hi'⟩
    have he := h.ex e
    obtain ⟨b, xs, hb1, hb2, hb3⟩ := row_at he hr
    have hrl : r.length = t.names.length := hw.rl r (List.mem_of_getElem? hr)
    have hxl : xs.length = t.names.length := by have := DpAll.len hb3; rw [List.length_map, hrl] at this; exact this
    refine Evl.q_asg (ev_ixL (ev_rows T (ev_var rfl) he) (ev_var rfl) he.rl (atI_nat hb1)) fun H2 e2 => ?_
    refine Evl.s_forR1 (n := t.names.length) (ea_cons (ev_int (ev_lenT (ev_var rfl) (SqT.ex e2 hb2)) (by rw [hxl])) ea_nil) (by omega)
      (fun j σ' H' => Ex H H' ∧ (∃ ys, H' p = some (.lst ys) ∧ DpAll K H' ys ((spotsTo t c i ++ spotsRow t c i j).map pD)) ∧ ∃ x5, σ' = [some (.ref a), some u, some (.ref p), some (.int (i : Nat)), some (.ref b), x5] ∧ SqT K H' b xs ∧ DpAll K H' xs (r.map cD))
      (fun H3 e3 => ⟨(e.trans e2).trans e3, ⟨ys, e3 _ _ (e2 _ _ hy), by
        have : spotsRow t c i 0 = [] := rfl
        rw [this, List.append_nil]
        exact DpAll.ex (e2.trans e3) hyd⟩, x5, rfl, SqT.ex (e2.trans e3) hb2, DpAll.ex (e2.trans e3) hb3⟩) ?_ ?_
    · rintro j σ' H' hj ⟨e, ⟨ys, hy, hyd⟩, x5, rfl, hsx, hdx⟩
      have hj' : j < t.names.length := by omega
      obtain ⟨cv, hcv, hcd⟩ := cell_in (c := j) hdx (by rw [hrl]; exact hj')
      have hcell : PyData.eqv (cD (VatdfBase.cellAt r j)) (cD c) = (t.cell i j == c) := by
        rw [eqv_cD, row_eq hr]
        by_cases hq : VatdfBase.cellAt r j = c
        · rw [hq]; simp
        · rw [decide_eq_false hq]; exact (beq_eq_false_iff_ne.mpr hq).symm
      have hl1 := spotsTo_len t c i
      have hl2 := spotsRow_len t c i j
      have hmul : i * t.names.length ≤ 12 * 5 := Nat.mul_le_mul (by omega) h5
      have hyl : ys.length ≤ 100 := by
        have := DpAll.len hyd
        rw [List.length_map, List.length_append] at this
        omega
      refine Evl.s_when (Evl.et_test (ev_eqD (evp_dp (ev_ixT (ev_var rfl) (ev_var rfl) hsx (atI_nat hcv)) hcd) (evp_dp (ev_var rfl) (Dp.ex e hd)) (shaped_cD _) (shaped_cD _) hcell)) (fun hb H2 e2 => ?_) fun hb H2 e2 => ?_
      · refine Evl.s_appU (e2 _ _ hy) (ev_var rfl) (Evl.eu_tup (ea_cons (ev_var rfl) (ea_cons (ev_var rfl) ea_nil)) (by show 2 ≤ 100000; decide)) (by omega) fun z H3 nz e3 hz => ⟨Ex.mut ((e.trans e2).trans e3) np, ⟨_, upd_same, ?_⟩, _, rfl, sqT_upd (e3 _ _ (e2 _ _ hy)) (SqT.ex (e2.trans e3) hsx), stabAll (stab_map stab_cD _) (e3 _ _ (e2 _ _ hy)) (DpAll.ex (e2.trans e3) hdx)⟩
        rw [spotsRow_succ, if_pos hb, ← List.append_assoc, List.map_append]
        have hy3 := e3 _ _ (e2 _ _ hy)
        exact DpAll.app (stabAll (stab_map stab_pD _) hy3 (DpAll.ex (e2.trans e3) hyd)) (DpAll.one (stab_pD (i, j) _ _ _ _ _ hy3 (dp_of_tup (ns := [(i : Int), (j : Int)]) (SqT.of hz))))
      · refine ⟨e.trans e2, ⟨ys, e2 _ _ hy, ?_⟩, _, rfl, SqT.ex e2 hsx, DpAll.ex e2 hdx⟩
        rw [spotsRow_succ, if_neg (by rw [hb]; decide), List.append_nil]
        exact DpAll.ex e2 hyd
    · rintro σ' H' ⟨e, hys, x5, rfl, _, _⟩
      rw [Int.toNat_natCast, ← spotsTo_succ] at hys
      exact ⟨e, hys, _, _, _, rfl⟩
  · rintro σ' H' ⟨e, ⟨ys, hy, hyd⟩, x3, x4, x5, rfl⟩
    rw [Int.toNat_natCast, spots_is] at hyd
    exact Evl.s_ret (ev_var rfl) fun H2 e2 => k p H2 np (e.trans e2) ⟨ys, e2 _ _ hy, DpAll.ex e2 hyd⟩
end
end Tx
end

section
set_option Elab.async false
set_option linter.all false
set_option maxRecDepth 100000
set_option maxHeartbeats 4000000
set_option exponentiation.threshold 100000
namespace Tx
open PySem PySem.Spec PyProof.Rows L2
open Evl (Ex Ev EvL EvU EvT EvA EvO RV ev_c ev_var ea_nil ea_cons eo_none eo_some)
open VatdfBase (Cell Table)

theorem beq_dec {α : Type} [DecidableEq α] (a b : α) : (a == b) = decide (a = b) := by
  by_cases h : a = b
  · rw [decide_eq_true h]; exact beq_iff_eq.mpr h
  · rw [decide_eq_false h]; exact beq_eq_false_iff_ne.mpr h
theorem pick_all (cs : List Nat) (r1 r2 : TRow) : (cs.all ((fun b => id b) ∘ fun c => VatdfBase.cellAt r1 c == VatdfBase.cellAt r2 c)) = (Vatdfa.pick cs r1 == Vatdfa.pick cs r2) := by
  unfold Vatdfa.pick
  induction cs with
  | nil => rfl
  | cons c cs ih =>
    rw [List.all_cons, ih]
    show ((VatdfBase.cellAt r1 c == VatdfBase.cellAt r2 c) && _) = _
    rfl
def ear (t : Table) (cs : List Nat) (j : Nat) : Option Nat := (List.range j).find? fun i => Vatdfa.pick cs (t.row i) == Vatdfa.pick cs (t.row j)
def earI : Option Nat → Int
  | some i => (i : Int)
  | none => -1
def twI : Option (Nat × Nat) → List Int
  | some p => [(p.1 : Int), (p.2 : Int)]
  | none => [-1, -1]
theorem ear_no {t : Table} {cs : List Nat} {j : Nat} (h : ∀ m, m < j → (Vatdfa.pick cs (t.row m) == Vatdfa.pick cs (t.row j)) = false) : ear t cs j = none := by
  unfold ear
  rw [List.find?_eq_none]
  intro m hm
  rw [h m (List.mem_range.mp hm)]
  decide
theorem find_first {p : Nat → Bool} : ∀ {j i : Nat}, i < j → (∀ m, m < i → p m = false) → p i = true → (List.range j).find? p = some i := by
  intro j i hij hno hi
  rw [List.find?_range_eq_some]
  exact ⟨hi, List.mem_range.mpr hij, fun m hm => by rw [hno m hm]; rfl⟩
theorem ear_at {t : Table} {cs : List Nat} {j i : Nat} (hij : i < j) (hno : ∀ m, m < i → (Vatdfa.pick cs (t.row m) == Vatdfa.pick cs (t.row j)) = false) (hi : (Vatdfa.pick cs (t.row i) == Vatdfa.pick cs (t.row j)) = true) : ear t cs j = some i := find_first hij hno hi
theorem findSome_first {β : Type} {f : Nat → Option β} {b : β} : ∀ {n i : Nat}, i < n → (∀ m, m < i → f m = none) → f i = some b → (List.range n).findSome? f = some b := by
  intro n
  induction n with
  | zero => intro i h; omega
  | succ n ih =>
    intro i h hno hi
    rw [List.range_succ, List.findSome?_append]
    by_cases hin : i < n
    · rw [ih hin hno hi]
      rfl
    · have e : i = n := by omega
      subst e
      have : (List.range i).findSome? f = none := by
        rw [List.findSome?_eq_none_iff]
        intro m hm
        exact hno m (List.mem_range.mp hm)
      rw [this]
      simp [hi]
theorem first_at {t : Table} {cs : List Nat} {i m : Nat} (hi : i < t.rows.length) (hno : ∀ m, m < i → ear t cs m = none) (he : ear t cs i = some m) : Vatdfa.firstAlike t cs = some (m, i) := by
  unfold Vatdfa.firstAlike
  refine findSome_first (i := i) hi (fun q hq => ?_) ?_
  · have := hno q hq
    unfold ear at this
    rw [this]
    rfl
  · unfold ear at he
    rw [he]
    rfl
theorem first_no {t : Table} {cs : List Nat} (hno : ∀ m, m < t.rows.length → ear t cs m = none) : Vatdfa.firstAlike t cs = none := by
  unfold Vatdfa.firstAlike
  rw [List.findSome?_eq_none_iff]
  intro q hq
  have := hno q (List.mem_range.mp hq)
  unfold ear at this
  rw [this]
  rfl
section
variable {P : Program} {w : World} {K : PySem.W.Frag} {mg : Str → Option Value} {base : Heap} {ad : Ads}
theorem fn_alike_in (T : Tops K mg ad) : Fn P w K mg base "alike_in" 1 ["one", "other", "columns"] (spV (A3 fun (x : (TRow × TRow) × List Nat) v v2 u H => Dp K H v (rD x.1.1) ∧ Dp K H v2 (rD x.1.2) ∧ isL K (nI x.2) u H ∧ x.2.length ≤ 1000 ∧ ∀ c ∈ x.2, c < x.1.1.length ∧ c < x.1.2.length) fun x => .bl (Vatdfa.pick x.2 x.1.1 == Vatdfa.pick x.2 x.1.2)) := by
  refine Fn.mk' T.f_alike_in sc_alike_in lV3 fun cdv f A outer s H E hr => ⟨_, (pss_one (ps_ret (pe_callB (cr_all rfl) (by rfl) T.b_all (by decide +kernel) (pa_cons (pe_lc (own := [("column", 3)]) (g := gName 3) (tt := tYes) rfl sc_alike_in.nd (pi_list (pv 2)) (blkOk_by (N := ["one", "other", "columns", "column"]) (sc := defScope s_alike_in) (by decide +kernel)) (fun _ _ _ _ _ => pg_name (i := 3) sc_alike_in.nd rfl (Or.inl rfl)) (fun _ _ _ _ _ => pts_nil) (fun _ _ _ _ _ => (pe_cmpR (op_eqDK K rfl hr.units) (pe_ix (ix_tupK K rfl) (pv 0) (pv 3) (fun _ _ => rfl)) (pe_ix (ix_tupK K rfl) (pv 1) (pv 3) (fun _ _ => rfl)) (nomark _)))) pa_nil)))), ?_⟩
  rintro vs Q ⟨⟨⟨r1, r2⟩, cs⟩, ⟨v, v2, u, rfl, h1, h2, ⟨b, rfl, hc⟩, hz, hlt⟩, k⟩
  change SqL K H b (nV cs) at hc
  change cs.length ≤ 1000 at hz
  change ∀ c ∈ cs, c < r1.length ∧ c < r2.length at hlt
  obtain ⟨a1, xs1, rfl, s1, d1⟩ := dp_rD.mp h1
  obtain ⟨a2, xs2, rfl, s2, d2⟩ := dp_rD.mp h2
  refine Evl.s_ret (ev_bool (ev_all (bs := cs.map fun c => VatdfBase.cellAt r1 c == VatdfBase.cellAt r2 c) (evl_is (evl_lcM cs (fun (n : Nat) => V.int (n : Int)) (fun c => V.bl (VatdfBase.cellAt r1 c == VatdfBase.cellAt r2 c)) (src_L (ev_var rfl) (by rw [← nV_map]; exact hc)) (by omega) (fun _ => rfl) ?_) (by rw [List.map_map]; rfl))) ?_) k
  · intro c hcm H1 e
    obtain ⟨l1, l2⟩ := hlt c hcm
    obtain ⟨v1, g1, g2⟩ := cell_in (DpAll.ex e d1) l1
    obtain ⟨v2, g3, g4⟩ := cell_in (DpAll.ex e d2) l2
    refine ev_eqD (evp_dp (ev_ixT (ev_var rfl) (ev_var rfl) (SqT.ex e s1) (atI_nat g1)) g2) (evp_dp (ev_ixT (ev_var rfl) (ev_var rfl) (SqT.ex e s2) (atI_nat g3)) g4) (shaped_cD _) (shaped_cD _) ?_
    rw [eqv_cD]
    exact (beq_dec _ _).symm
  · rw [List.all_map]
    exact pick_all cs r1 r2
theorem fn_earlier (T : Tops K mg ad) : Fn P w K mg base "earlier" 2 ["table", "columns", "row"] (spV (A3 fun (x : (Table × Nat) × List Nat) v u i H => isTab K ad x.1.1 v H ∧ isL K (nI x.2) u H ∧ i = .int (x.1.2 : Nat) ∧ x.1.2 < x.1.1.rows.length ∧ Wf x.1.1 ∧ x.2.length ≤ 1000 ∧ ∀ c ∈ x.2, c < x.1.1.names.length) fun x => .int (earI (ear x.1.1 x.2 x.1.2))) := by
  refine Fn.mk' T.f_earlier sc_earlier lV3 fun cdv f A outer s H E hr => ⟨_, (pss_cons (ps_for PassesOwn.never rfl (pi_range1 rfl T.b_range (pa_cons (pv 2) pa_nil)) (pg_name (i := 3) sc_earlier.nd rfl (Or.inl rfl)) (pss_one (ps_if (pt_val (pe_fn (fn_alike_in T) (hr.mono (by decide)) (pa_cons (pe_ix ix_list (pe_fld (pv 0) rfl) (pv 3) (fun _ _ => rfl)) (pa_cons (pe_ix ix_list (pe_fld (pv 0) rfl) (pv 2) (fun _ _ => rfl)) (pa_cons (pv 1) pa_nil))))) (pss_one (ps_ret (pv 3))) pss_nil)))
      (pss_one (ps_ret (pe_un un_neg pe_int)))), ?_⟩
  rintro vs Q ⟨⟨⟨t, j⟩, cs⟩, ⟨v, u, i0, rfl, ⟨a, ln, lr, ns, rs, rfl, h⟩, ⟨b, rfl, hc⟩, rfl, hj, hw, hz, hlt⟩, k⟩
  change SqL K H b (nV cs) at hc
  change cs.length ≤ 1000 at hz
  change ∀ c ∈ cs, c < t.names.length at hlt
  change TabAt K ad H t a ln lr ns rs at h
  change j < t.rows.length at hj
  change Wf t at hw
  have h12 := hw.r12
  obtain ⟨rj, hrj⟩ : ∃ r, t.rows[j]? = some r := ⟨_, List.getElem?_eq_getElem hj⟩
  refine Evl.q_forR1 (n := j) (ea_cons (ev_var rfl) ea_nil) (by omega)
    (fun i σ' H' => Ex H H' ∧ (∀ m, m < i → (Vatdfa.pick cs (t.row m) == Vatdfa.pick cs (t.row j)) = false) ∧ ∃ x, σ' = [some (.ref a), some (.ref b), some (.int (j : Nat)), x])
    (fun H1 e1 => ⟨e1, fun m hm => absurd hm (by omega), none, rfl⟩) ?_ ?_
  · rintro i σ' H' hi ⟨e, hno, x, rfl⟩
    have hi' : i < j := by omega
    obtain ⟨ri, hri⟩ : ∃ r, t.rows[i]? = some r := ⟨_, List.getElem?_eq_getElem (by omega)⟩
    have he := h.ex e
    obtain ⟨bi, xi, g1, g2, g3⟩ := row_at he hri
    obtain ⟨bj, xj, g4, g5, g6⟩ := row_at he hrj
    have ei : t.row i = ri := by unfold VatdfBase.Table.row; rw [hri]; rfl
    have ej : t.row j = rj := by unfold VatdfBase.Table.row; rw [hrj]; rfl
    have li := hw.rl ri (List.mem_of_getElem? hri)
    have lj := hw.rl rj (List.mem_of_getElem? hrj)
    refine Evl.s_when (et_val (ev_callV ((ri, rj), cs) (ea_cons (ev_ixL (ev_rows T (ev_var rfl) he) (ev_var rfl) he.rl (atI_nat g1)) (ea_cons (ev_ixL (ev_rows T (ev_var rfl) he) (ev_var rfl) he.rl (atI_nat g4)) (ea_cons (ev_var rfl) ea_nil))) fun H1 e1 =>
      ⟨_, _, _, rfl, Dp.ex e1 (dp_rD.mpr ⟨bi, xi, rfl, g2, g3⟩), Dp.ex e1 (dp_rD.mpr ⟨bj, xj, rfl, g5, g6⟩), ⟨b, rfl, SqL.ex (e.trans e1) hc⟩, hz, fun c hc => by show c < ri.length ∧ c < rj.length; rw [li, lj]; exact ⟨hlt c hc, hlt c hc⟩⟩)) (fun hb H1 e1 => ?_) fun hb H1 e1 => ?_
    · refine Evl.s_ret (ev_int (ev_var rfl) ?_) fun H2 e2 => k H2 ((e.trans e1).trans e2)
      show (i : Int) = earI (ear t cs j)
      rw [ear_at hi' hno (by rw [ei, ej]; exact hb)]
      rfl
    · refine ⟨e.trans e1, fun m hm => ?_, _, rfl⟩
      by_cases hmi : m = i
      · rw [hmi, ei, ej]; exact hb
      · exact hno m (by omega)
  · rintro σ' H' ⟨e, hno, x, rfl⟩
    rw [Int.toNat_natCast] at hno
    refine Evl.s_ret (ev_int (ev_neg ev_c) ?_) fun H2 e2 => k H2 (e.trans e2)
    show (-1 : Int) = earI (ear t cs j)
    rw [ear_no hno]
    rfl
theorem fn_twice (T : Tops K mg ad) : Fn P w K mg base "twice" 3 ["table", "columns"] (spP (A2 fun (x : Table × List Nat) v u H => isTab K ad x.1 v H ∧ isL K (nI x.2) u H ∧ Wf x.1 ∧ x.2.length ≤ 1000 ∧ ∀ c ∈ x.2, c < x.1.names.length) fun x v H => Dp K H v (.tuple ((twI (Vatdfa.firstAlike x.1 x.2)).map .int))) := by
  refine Fn.mk' T.f_twice sc_twice lP2 fun cdv f A outer s H E hr => ⟨_, (pss_cons (ps_for PassesOwn.never rfl (pi_range1 rfl T.b_range (pa_cons (pe_callB call_len_seq (by rfl) T.b_len PySem.boot_len (pa_cons (pe_fld (pv 0) rfl) pa_nil)) pa_nil)) (pg_name (i := 2) sc_twice.nd rfl (Or.inl rfl)) (pss_cons (ps_set (i := 3) sc_twice.nd rfl (Or.inl rfl) (pe_fn (fn_earlier T) (hr.mono (by decide)) (pa_cons (pv 0) (pa_cons (pv 1) (pa_cons (pv 2) pa_nil)))))
      (pss_one (ps_if (pt_cmpR op_ge (pv 3) pe_int (nomark _)) (pss_one (ps_ret (pe_tup (pa_cons (pv 3) (pa_cons (pv 2) pa_nil))))) pss_nil))))
      (pss_one (ps_ret (pe_gr T.c_NEVER)))), ?_⟩
  rintro vs Q ⟨⟨t, cs⟩, ⟨v, u, rfl, ⟨a, ln, lr, ns, rs, rfl, h⟩, ⟨b, rfl, hc⟩, hw, hz, hlt⟩, k⟩
  change SqL K H b (nV cs) at hc
  change cs.length ≤ 1000 at hz
  change ∀ c ∈ cs, c < t.names.length at hlt
  change TabAt K ad H t a ln lr ns rs at h
  change Wf t at hw
  have h12 := hw.r12
  refine Evl.q_forR1 (n := t.rows.length) (ea_cons (ev_int (ev_lenL (ev_rows T (ev_var rfl) h) h.rl) (by rw [len_rows h])) ea_nil) (by omega)
    (fun i σ' H' => Ex H H' ∧ (∀ m, m < i → ear t cs m = none) ∧ ∃ x y, σ' = [some (.ref a), some (.ref b), x, y])
    (fun H1 e1 => ⟨e1, fun m hm => absurd hm (by omega), none, none, rfl⟩) ?_ ?_
  · rintro i σ' H' hi ⟨e, hno, x, y, rfl⟩
    have hi' : i < t.rows.length := by omega
    refine Evl.q_asg (ev_callV ((t, i), cs) (ea_cons (ev_var rfl) (ea_cons (ev_var rfl) (ea_cons (ev_var rfl) ea_nil))) fun H1 e1 => ⟨_, _, _, rfl, ⟨a, ln, lr, ns, rs, rfl, h.ex (e.trans e1)⟩, ⟨b, rfl, SqL.ex (e.trans e1) hc⟩, rfl, hi', hw, hz, hlt⟩) fun H1 e1 => ?_
    refine Evl.s_when (Evl.et_test (ev_I0 (ev_var rfl) ev_c)) (fun hb H2 e2 => ?_) fun hb H2 e2 => ?_
    · rw [decide_eq_true_eq] at hb
      cases he : ear t cs i with
      | none =>
        rw [he] at hb
        exact absurd hb (by decide)
      | some m =>
        refine Evl.s_retU (Evl.eu_tup (ea_cons (ev_var rfl) (ea_cons (ev_var rfl) ea_nil)) (by show 2 ≤ 100000; decide)) fun p H3 np e3 hp => k _ H3 (((e.trans e1).trans e2).trans e3) ?_
        show Dp K H3 (.ref p) (.tuple ((twI (Vatdfa.firstAlike t cs)).map .int))
        rw [first_at hi' hno he]
        exact dp_of_tup (ns := [(m : Int), (i : Int)]) (SqT.of hp)
    · rw [decide_eq_false_iff_not] at hb
      refine ⟨(e.trans e1).trans e2, fun m hm => ?_, _, _, rfl⟩
      by_cases hmi : m = i
      · rw [hmi]
        cases he : ear t cs i with
        | none => rfl
        | some m =>
          rw [he] at hb
          exact absurd (by show (0 : Int) ≤ (m : Int); omega) hb
      · exact hno m (by omega)
  · rintro σ' H' ⟨e, hno, x, y, rfl⟩
    rw [Int.toNat_natCast] at hno
    refine Evl.s_ret ev_c fun H2 e2 => k _ H2 (e.trans e2) ?_
    show Dp K H2 _ (.tuple ((twI (Vatdfa.firstAlike t cs)).map .int))
    rw [first_no hno]
    exact dp_of_tup (ns := [-1, -1]) (T.d_NEVER H2)

theorem fn_alike_in_T (T : Tops K mg ad) : Fn P w K mg base "alike_in" 1 ["one", "other", "columns"] (spV (A3 fun (x : (TRow × TRow) × List Nat) v v2 u H => Dp K H v (rD x.1.1) ∧ Dp K H v2 (rD x.1.2) ∧ isB K x.2 u H ∧ x.2.length ≤ 1000 ∧ ∀ c ∈ x.2, c < x.1.1.length ∧ c < x.1.2.length) fun x => .bl (Vatdfa.pick x.2 x.1.1 == Vatdfa.pick x.2 x.1.2)) := by
  refine Fn.mk' T.f_alike_in sc_alike_in lV3 fun cdv f A outer s H E hr => ⟨_, (pss_one (ps_ret (pe_callB (cr_all rfl) (by rfl) T.b_all (by decide +kernel) (pa_cons (pe_lc (own := [("column", 3)]) (g := gName 3) (tt := tYes) rfl sc_alike_in.nd (pi_tup (pv 2)) (blkOk_by (N := ["one", "other", "columns", "column"]) (sc := defScope s_alike_in) (by decide +kernel)) (fun _ _ _ _ _ => pg_name (i := 3) sc_alike_in.nd rfl (Or.inl rfl)) (fun _ _ _ _ _ => pts_nil) (fun _ _ _ _ _ => (pe_cmpR (op_eqDK K rfl hr.units) (pe_ix (ix_tupK K rfl) (pv 0) (pv 3) (fun _ _ => rfl)) (pe_ix (ix_tupK K rfl) (pv 1) (pv 3) (fun _ _ => rfl)) (nomark _)))) pa_nil)))), ?_⟩
  rintro vs Q ⟨⟨⟨r1, r2⟩, cs⟩, ⟨v, v2, u, rfl, h1, h2, ⟨b, rfl, hc⟩, hz, hlt⟩, k⟩
  change SqT K H b (nV cs) at hc
  change cs.length ≤ 1000 at hz
  change ∀ c ∈ cs, c < r1.length ∧ c < r2.length at hlt
  obtain ⟨a1, xs1, rfl, s1, d1⟩ := dp_rD.mp h1
  obtain ⟨a2, xs2, rfl, s2, d2⟩ := dp_rD.mp h2
  refine Evl.s_ret (ev_bool (ev_all (bs := cs.map fun c => VatdfBase.cellAt r1 c == VatdfBase.cellAt r2 c) (evl_is (evl_lcMT cs (fun (n : Nat) => V.int (n : Int)) (fun c => V.bl (VatdfBase.cellAt r1 c == VatdfBase.cellAt r2 c)) (src_T (ev_var rfl) (by rw [← nV_map]; exact hc)) (by omega) (fun _ => rfl) ?_) (by rw [List.map_map]; rfl))) ?_) k
  · intro c hcm H1 e
    obtain ⟨l1, l2⟩ := hlt c hcm
    obtain ⟨v1, g1, g2⟩ := cell_in (DpAll.ex e d1) l1
    obtain ⟨v2, g3, g4⟩ := cell_in (DpAll.ex e d2) l2
    refine ev_eqD (evp_dp (ev_ixT (ev_var rfl) (ev_var rfl) (SqT.ex e s1) (atI_nat g1)) g2) (evp_dp (ev_ixT (ev_var rfl) (ev_var rfl) (SqT.ex e s2) (atI_nat g3)) g4) (shaped_cD _) (shaped_cD _) ?_
    rw [eqv_cD]
    exact (beq_dec _ _).symm
  · rw [List.all_map]
    exact pick_all cs r1 r2
theorem fn_earlier_T (T : Tops K mg ad) : Fn P w K mg base "earlier" 2 ["table", "columns", "row"] (spV (A3 fun (x : (Table × Nat) × List Nat) v u i H => isTab K ad x.1.1 v H ∧ isB K x.2 u H ∧ i = .int (x.1.2 : Nat) ∧ x.1.2 < x.1.1.rows.length ∧ Wf x.1.1 ∧ x.2.length ≤ 1000 ∧ ∀ c ∈ x.2, c < x.1.1.names.length) fun x => .int (earI (ear x.1.1 x.2 x.1.2))) := by
  refine Fn.mk' T.f_earlier sc_earlier lV3 fun cdv f A outer s H E hr => ⟨_, (pss_cons (ps_for PassesOwn.never rfl (pi_range1 rfl T.b_range (pa_cons (pv 2) pa_nil)) (pg_name (i := 3) sc_earlier.nd rfl (Or.inl rfl)) (pss_one (ps_if (pt_val (pe_fn (fn_alike_in_T T) (hr.mono (by decide)) (pa_cons (pe_ix ix_list (pe_fld (pv 0) rfl) (pv 3) (fun _ _ => rfl)) (pa_cons (pe_ix ix_list (pe_fld (pv 0) rfl) (pv 2) (fun _ _ => rfl)) (pa_cons (pv 1) pa_nil))))) (pss_one (ps_ret (pv 3))) pss_nil)))
      (pss_one (ps_ret (pe_un un_neg pe_int)))), ?_⟩
  rintro vs Q ⟨⟨⟨t, j⟩, cs⟩, ⟨v, u, i0, rfl, ⟨a, ln, lr, ns, rs, rfl, h⟩, ⟨b, rfl, hc⟩, rfl, hj, hw, hz, hlt⟩, k⟩
  change SqT K H b (nV cs) at hc
  change cs.length ≤ 1000 at hz
  change ∀ c ∈ cs, c < t.names.length at hlt
  change TabAt K ad H t a ln lr ns rs at h
  change j < t.rows.length at hj
  change Wf t at hw
  have h12 := hw.r12
  obtain ⟨rj, hrj⟩ : ∃ r, t.rows[j]? = some r := ⟨_, List.getElem?_eq_getElem hj⟩
  refine Evl.q_forR1 (n := j) (ea_cons (ev_var rfl) ea_nil) (by omega)
    (fun i σ' H' => Ex H H' ∧ (∀ m, m < i → (Vatdfa.pick cs (t.row m) == Vatdfa.pick cs (t.row j)) = false) ∧ ∃ x, σ' = [some (.ref a), some (.ref b), some (.int (j : Nat)), x])
    (fun H1 e1 => ⟨e1, fun m hm => absurd hm (by omega), none, rfl⟩) ?_ ?_
  · rintro i σ' H' hi ⟨e, hno, x, rfl⟩
    have hi' : i < j := by omega
    obtain ⟨ri, hri⟩ : ∃ r, t.rows[i]? = some r := ⟨_, List.getElem?_eq_getElem (by omega)⟩
    have he := h.ex e
    obtain ⟨bi, xi, g1, g2, g3⟩ := row_at he hri
    obtain ⟨bj, xj, g4, g5, g6⟩ := row_at he hrj
    have ei : t.row i = ri := by unfold VatdfBase.Table.row; rw [hri]; rfl
    have ej : t.row j = rj := by unfold VatdfBase.Table.row; rw [hrj]; rfl
    have li := hw.rl ri (List.mem_of_getElem? hri)
    have lj := hw.rl rj (List.mem_of_getElem? hrj)
    refine Evl.s_when (et_val (ev_callV ((ri, rj), cs) (ea_cons (ev_ixL (ev_rows T (ev_var rfl) he) (ev_var rfl) he.rl (atI_nat g1)) (ea_cons (ev_ixL (ev_rows T (ev_var rfl) he) (ev_var rfl) he.rl (atI_nat g4)) (ea_cons (ev_var rfl) ea_nil))) fun H1 e1 =>
      ⟨_, _, _, rfl, Dp.ex e1 (dp_rD.mpr ⟨bi, xi, rfl, g2, g3⟩), Dp.ex e1 (dp_rD.mpr ⟨bj, xj, rfl, g5, g6⟩), ⟨b, rfl, SqT.ex (e.trans e1) hc⟩, hz, fun c hc => by show c < ri.length ∧ c < rj.length; rw [li, lj]; exact ⟨hlt c hc, hlt c hc⟩⟩)) (fun hb H1 e1 => ?_) fun hb H1 e1 => ?_
    · refine Evl.s_ret (ev_int (ev_var rfl) ?_) fun H2 e2 => k H2 ((e.trans e1).trans e2)
      show (i : Int) = earI (ear t cs j)
      rw [ear_at hi' hno (by rw [ei, ej]; exact hb)]
      rfl
    · refine ⟨e.trans e1, fun m hm => ?_, _, rfl⟩
      by_cases hmi : m = i
      · rw [hmi, ei, ej]; exact hb
      · exact hno m (by omega)
  · rintro σ' H' ⟨e, hno, x, rfl⟩
    rw [Int.toNat_natCast] at hno
    refine Evl.s_ret (ev_int (ev_neg ev_c) ?_) fun H2 e2 => k H2 (e.trans e2)
    show (-1 : Int) = earI (ear t cs j)
    rw [ear_no hno]
    rfl
theorem fn_twice_T (T : Tops K mg ad) : Fn P w K mg base "twice" 3 ["table", "columns"] (spP (A2 fun (x : Table × List Nat) v u H => isTab K ad x.1 v H ∧ isB K x.2 u H ∧ Wf x.1 ∧ x.2.length ≤ 1000 ∧ ∀ c ∈ x.2, c < x.1.names.length) fun x v H => Dp K H v (.tuple ((twI (Vatdfa.firstAlike x.1 x.2)).map .int))) := by
  refine Fn.mk' T.f_twice sc_twice lP2 fun cdv f A outer s H E hr => ⟨_, (pss_cons (ps_for PassesOwn.never rfl (pi_range1 rfl T.b_range (pa_cons (pe_callB call_len_seq (by rfl) T.b_len PySem.boot_len (pa_cons (pe_fld (pv 0) rfl) pa_nil)) pa_nil)) (pg_name (i := 2) sc_twice.nd rfl (Or.inl rfl)) (pss_cons (ps_set (i := 3) sc_twice.nd rfl (Or.inl rfl) (pe_fn (fn_earlier_T T) (hr.mono (by decide)) (pa_cons (pv 0) (pa_cons (pv 1) (pa_cons (pv 2) pa_nil)))))
      (pss_one (ps_if (pt_cmpR op_ge (pv 3) pe_int (nomark _)) (pss_one (ps_ret (pe_tup (pa_cons (pv 3) (pa_cons (pv 2) pa_nil))))) pss_nil))))
      (pss_one (ps_ret (pe_gr T.c_NEVER)))), ?_⟩
  rintro vs Q ⟨⟨t, cs⟩, ⟨v, u, rfl, ⟨a, ln, lr, ns, rs, rfl, h⟩, ⟨b, rfl, hc⟩, hw, hz, hlt⟩, k⟩
  change SqT K H b (nV cs) at hc
  change cs.length ≤ 1000 at hz
  change ∀ c ∈ cs, c < t.names.length at hlt
  change TabAt K ad H t a ln lr ns rs at h
  change Wf t at hw
  have h12 := hw.r12
  refine Evl.q_forR1 (n := t.rows.length) (ea_cons (ev_int (ev_lenL (ev_rows T (ev_var rfl) h) h.rl) (by rw [len_rows h])) ea_nil) (by omega)
    (fun i σ' H' => Ex H H' ∧ (∀ m, m < i → ear t cs m = none) ∧ ∃ x y, σ' = [some (.ref a), some (.ref b), x, y])
    (fun H1 e1 => ⟨e1, fun m hm => absurd hm (by omega), none, none, rfl⟩) ?_ ?_
  · rintro i σ' H' hi ⟨e, hno, x, y, rfl⟩
    have hi' : i < t.rows.length := by omega
    refine Evl.q_asg (ev_callV ((t, i), cs) (ea_cons (ev_var rfl) (ea_cons (ev_var rfl) (ea_cons (ev_var rfl) ea_nil))) fun H1 e1 => ⟨_, _, _, rfl, ⟨a, ln, lr, ns, rs, rfl, h.ex (e.trans e1)⟩, ⟨b, rfl, SqT.ex (e.trans e1) hc⟩, rfl, hi', hw, hz, hlt⟩) fun H1 e1 => ?_
    refine Evl.s_when (Evl.et_test (ev_I0 (ev_var rfl) ev_c)) (fun hb H2 e2 => ?_) fun hb H2 e2 => ?_
    · rw [decide_eq_true_eq] at hb
      cases he : ear t cs i with
      | none =>
        rw [he] at hb
        exact absurd hb (by decide)
      | some m =>
        refine Evl.s_retU (Evl.eu_tup (ea_cons (ev_var rfl) (ea_cons (ev_var rfl) ea_nil)) (by show 2 ≤ 100000; decide)) fun p H3 np e3 hp => k _ H3 (((e.trans e1).trans e2).trans e3) ?_
        show Dp K H3 (.ref p) (.tuple ((twI (Vatdfa.firstAlike t cs)).map .int))
        rw [first_at hi' hno he]
        exact dp_of_tup (ns := [(m : Int), (i : Int)]) (SqT.of hp)
    · rw [decide_eq_false_iff_not] at hb
      refine ⟨(e.trans e1).trans e2, fun m hm => ?_, _, _, rfl⟩
      by_cases hmi : m = i
      · rw [hmi]
        cases he : ear t cs i with
        | none => rfl
        | some m =>
          rw [he] at hb
          exact absurd (by show (0 : Int) ≤ (m : Int); omega) hb
      · exact hno m (by omega)
  · rintro σ' H' ⟨e, hno, x, y, rfl⟩
    rw [Int.toNat_natCast] at hno
    refine Evl.s_ret ev_c fun H2 e2 => k _ H2 (e.trans e2) ?_
    show Dp K H2 _ (.tuple ((twI (Vatdfa.firstAlike t cs)).map .int))
    rw [first_no hno]
    exact dp_of_tup (ns := [-1, -1]) (T.d_NEVER H2)

end
end Tx
end

section
set_option Elab.async false
set_option linter.all false
set_option maxRecDepth 100000
set_option maxHeartbeats 4000000
set_option exponentiation.threshold 100000
namespace Tx
open PySem PySem.Spec PyProof.Rows L2
open Evl (Ex Ev EvL EvU EvT EvA EvO RV ev_c ev_var ea_nil ea_cons eo_none eo_some)
open VatdfBase (Cell Table)
def colsIn (many bits : Nat) : List Nat := (List.range many).filter fun c => Builtin.bitAnd (((bits / 2 ^ c : Nat)) : Int) 1 == 1
def szD (p : Nat × List Nat) : PyData := .tuple [.int (p.1 : Int), bD p.2]
def sizedTo (many n : Nat) : List (Nat × List Nat) := (List.range n).map fun b => ((colsIn many b).length, colsIn many b)
theorem sizedTo_succ (many n : Nat) : sizedTo many (n + 1) = sizedTo many n ++ [((colsIn many n).length, colsIn many n)] := by
  unfold sizedTo
  rw [List.range_succ, List.map_append]
  rfl
theorem stab_szD {K : PySem.W.Frag} (p : Nat × List Nat) : Stab K (szD p) := stab_tup fun d hd => by
  rcases List.mem_cons.mp hd with rfl | hd
  · exact stab_int _
  · rcases List.mem_cons.mp hd with rfl | hd
    · exact stab_bD _
    · simp at hd
theorem alike_szD (p q : Nat × List Nat) : PySem.W.alike (szD p) (szD q) = true := by
  unfold szD
  rw [PySem.W.alike, PySem.W.alikeAll, PySem.W.alikeAll, PySem.W.alikeAll, alike_bD, PySem.W.alike]
  rfl
theorem depth_szD (p : Nat × List Nat) : (szD p).depth ≤ 2 := by
  unfold szD
  have h := depth_bD p.2
  simp [PyData.depth, PyData.depthAll]
  omega
theorem colsIn_len (many bits : Nat) : (colsIn many bits).length ≤ many := by
  unfold colsIn
  have := List.length_filter_le (fun c => Builtin.bitAnd (((bits / 2 ^ c : Nat)) : Int) 1 == 1) (List.range many)
  rwa [List.length_range] at this
theorem eqv_szD {p q : Nat × List Nat} (h : PyData.eqv (szD p) (szD q) = true) : p = q := by
  unfold szD at h
  rw [PyData.eqv, PyData.eqvAll, PyData.eqvAll, PyData.eqvAll, eqv_bD, PyData.eqv] at h
  simp only [Bool.and_true, Bool.and_eq_true, decide_eq_true_eq, beq_iff_eq] at h
  obtain ⟨a, b⟩ := p
  obtain ⟨c, d⟩ := q
  have h1 : a = c := by have := h.1; omega
  have h2 : b = d := h.2
  rw [h1, h2]
def lexN : List Nat → List Nat → Bool
  | _, [] => false
  | [], _ :: _ => true
  | a :: l, b :: m => decide (a < b) || (a == b && lexN l m)
theorem lexN_is : ∀ a b : List Nat, decide (nI a < nI b) = lexN a b
  | [], [] => by simp [lexN]
  | [], b :: m => by simp [lexN]
  | a :: l, [] => by simp [lexN]
  | a :: l, b :: m => by
    have ih := lexN_is l m
    unfold lexN
    rw [← ih, Bool.eq_iff_iff]
    show decide ((a : Int) :: nI l < (b : Int) :: nI m) = true ↔ _
    rw [decide_eq_true_iff, List.cons_lt_cons_iff]
    simp only [Bool.or_eq_true, Bool.and_eq_true, decide_eq_true_eq, beq_iff_eq]
    have h1 : ((a : Int) < (b : Int)) ↔ a < b := by omega
    have h2 : ((a : Int) = (b : Int)) ↔ a = b := by omega
    rw [h1, h2]
def szLt (p q : Nat × List Nat) : Bool := if p.1 = q.1 then (if p.2 = q.2 then false else lexN p.2 q.2) else decide (p.1 < q.1)
theorem szLt_is (p q : Nat × List Nat) : PySem.W.dataLt (szD p) (szD q) = szLt p q := by
  unfold szD szLt
  rw [PySem.W.dataLt_pair (by rw [PySem.W.alike]) (alike_bD _ _), eqv_bD, PySem.W.dataLt_int]
  have e1 : PyData.eqv (.int (p.1 : Int)) (.int (q.1 : Int)) = decide (p.1 = q.1) := by
    rw [PyData.eqv, beq_dec]
    exact decide_eq_decide.mpr (by omega)
  have e2 : PySem.W.dataLt (bD p.2) (bD q.2) = lexN p.2 q.2 := by
    unfold bD
    rw [dataLt_tupI]
    exact lexN_is _ _
  rw [e1, e2]
  simp only [decide_eq_true_eq, cast_lt]
def szOf (s : List Nat) : Nat × List Nat := (s.length, s)
theorem sets_perm (many : Nat) (h : many ≤ 5) : (((Vatdfa.sets many).map szOf).isPerm (sizedTo many (2 ^ many)) && decide (((Vatdfa.sets many).map szOf).Pairwise fun a b => szLt b a = false)) = true := by
  match many, h with
  | 0, _ => decide +kernel
  | 1, _ => decide +kernel
  | 2, _ => decide +kernel
  | 3, _ => decide +kernel
  | 4, _ => decide +kernel
  | 5, _ => decide +kernel
  | n + 6, h => exact absurd h (by omega)
/-- sorted(sized): the sets in order -/
theorem sets_sorted (many : Nat) (h : many ≤ 5) : ((sizedTo many (2 ^ many)).mergeSort (PySem.W.dataLe false szD)).map (·.2) = Vatdfa.sets many := by
  have := sets_perm many h
  rw [Bool.and_eq_true, decide_eq_true_eq, List.isPerm_iff] at this
  rw [sort_is alike_szD (fun a b => eqv_szD) this.1 (this.2.imp fun {a b} q => by rw [dataLe_is, szLt_is, q]; rfl), List.map_map]
  exact List.map_id' _
theorem sets_all (many : Nat) (h : many ≤ 5) : (Vatdfa.sets many).all (fun s => decide (s.length ≤ 5) && s.all fun c => decide (c < many)) = true := by
  match many, h with
  | 0, _ => decide +kernel
  | 1, _ => decide +kernel
  | 2, _ => decide +kernel
  | 3, _ => decide +kernel
  | 4, _ => decide +kernel
  | 5, _ => decide +kernel
  | n + 6, h => exact absurd h (by omega)
theorem sets_len (many : Nat) (h : many ≤ 5) : (Vatdfa.sets many).length ≤ 32 := by
  match many, h with
  | 0, _ => decide +kernel
  | 1, _ => decide +kernel
  | 2, _ => decide +kernel
  | 3, _ => decide +kernel
  | 4, _ => decide +kernel
  | 5, _ => decide +kernel
  | n + 6, h => exact absurd h (by omega)
theorem sets_ok {many : Nat} (h : many ≤ 5) {s : List Nat} (hs : s ∈ Vatdfa.sets many) : s.length ≤ 5 ∧ ∀ c ∈ s, c < many := by
  have := List.all_eq_true.mp (sets_all many h) s hs
  rw [Bool.and_eq_true, decide_eq_true_eq, List.all_eq_true] at this
  exact ⟨this.1, fun c hc => of_decide_eq_true (this.2 c hc)⟩
def keyStep (t : Table) (l : List (List Nat)) (s : List Nat) : List (List Nat) := if Vatdfa.isKey t s && !l.any (fun k => k.all s.contains) then l ++ [s] else l
def keysOf (t : Table) (ss : List (List Nat)) : List (List Nat) := ss.foldl (keyStep t) []
theorem keys_is (t : Table) : keysOf t (Vatdfa.sets t.names.length) = Vatdfa.keys t := rfl
theorem keysOf_snoc (t : Table) (ss : List (List Nat)) (s : List Nat) : keysOf t (ss ++ [s]) = keyStep t (keysOf t ss) s := by
  unfold keysOf
  rw [List.foldl_append]
  rfl
theorem keysOf_sub (t : Table) : ∀ (ss l : List (List Nat)), (ss.foldl (keyStep t) l).length ≤ l.length + ss.length ∧ ∀ s ∈ ss.foldl (keyStep t) l, s ∈ l ∨ s ∈ ss
  | [], l => ⟨by simp, fun s hs => .inl hs⟩
  | x :: ss, l => by
    rw [List.foldl_cons]
    obtain ⟨h1, h2⟩ := keysOf_sub t ss (keyStep t l x)
    have h3 : (keyStep t l x).length ≤ l.length + 1 ∧ ∀ s ∈ keyStep t l x, s ∈ l ∨ s = x := by
      unfold keyStep
      split
      · refine ⟨by simp, fun s hs => ?_⟩
        rw [List.mem_append, List.mem_singleton] at hs
        exact hs
      · exact ⟨by omega, fun s hs => .inl hs⟩
    refine ⟨by rw [List.length_cons]; omega, fun s hs => ?_⟩
    rcases h2 s hs with q | q
    · rcases h3.2 s q with r | r
      · exact .inl r
      · exact .inr (by rw [r]; exact List.mem_cons_self)
    · exact .inr (List.mem_cons_of_mem _ q)
section
variable {K : PySem.W.Frag} {σ : L2.St} {H : Hp} {tl : TE} {g : TG} {tu tz : TS} {D : Ends}
theorem q_for_srcF {F : Addr → Hp → Prop} (h : EvF tl σ H F) (k : ∀ p H1, H p = none → Ex H H1 → F p H1 → tSeq (tFor (iList K (tC (.ref p))) g tu) tz D σ H1) : tSeq (tFor (iList K tl) g tu) tz D σ H := h H (Ex.refl H) _ k
theorem s_for_srcF {F : Addr → Hp → Prop} (h : EvF tl σ H F) (k : ∀ p H1, H p = none → Ex H H1 → F p H1 → tFor (iList K (tC (.ref p))) g tu D σ H1) : tFor (iList K tl) g tu D σ H := h H (Ex.refl H) _ k
end
section
variable {P : Program} {w : World} {K : PySem.W.Frag} {mg : Str → Option Value} {base : Heap} {ad : Ads}
theorem fn_is_key (T : Tops K mg ad) : Fn P w K mg base "is_key" 4 ["table", "columns"] (spV (A2 fun (x : Table × List Nat) v u H => isTab K ad x.1 v H ∧ isB K x.2 u H ∧ Wf x.1 ∧ x.2.length ≤ 1000 ∧ ∀ c ∈ x.2, c < x.1.names.length) fun x => .bl (Vatdfa.isKey x.1 x.2)) := by
  refine Fn.mk' T.f_is_key sc_is_key lV2 fun cdv f A outer s H E hr => ⟨_, (pss_one (ps_ret (pe_cmpR (op_eqD hr.units) (pe_fn (fn_twice_T T) (hr.mono (by decide)) (pa_cons (pv 0) (pa_cons (pv 1) pa_nil))) (pe_gr T.c_NEVER) (nomark _)))), ?_⟩
  rintro vs Q ⟨⟨t, cs⟩, ⟨v, u, rfl, ht, hu, hw, hz, hlt⟩, k⟩
  refine Evl.s_ret (ev_bool (ev_eqD (evp_callP (t, cs) (ea_cons (ev_var rfl) (ea_cons (ev_var rfl) ea_nil)) fun H1 e1 => ⟨_, _, rfl, ht.ex e1, hu.ex e1, hw, hz, hlt⟩) (evp_dp ev_c (dp_of_tup (ns := [-1, -1]) (T.d_NEVER H))) (shaped_tupI _) (shaped_tupI _) (eqv_tupI _ _)) ?_) k
  show decide (twI (Vatdfa.firstAlike t cs) = [-1, -1]) = Vatdfa.isKey t cs
  unfold Vatdfa.isKey
  cases Vatdfa.firstAlike t cs with
  | none => rfl
  | some p =>
    show decide ([(p.1 : Int), (p.2 : Int)] = [-1, -1]) = false
    rw [decide_eq_false_iff_not]
    intro q
    injection q with q _
    omega
theorem fn_columns_in (T : Tops K mg ad) : Fn P w K mg base "columns_in" 1 ["many", "bits"] (spP (A2 fun (x : Nat × Nat) v u H => v = .int (x.1 : Nat) ∧ u = .int (x.2 : Nat) ∧ x.1 ≤ 5) fun x v H => isB K (colsIn x.1 x.2) v H) := by
  refine Fn.mk' T.f_columns_in sc_columns_in lP2 fun cdv f A outer s H E hr => ⟨_, (pss_one (ps_ret (pe_callTy call_tuple_of (by rfl) T.b_tuple (by decide +kernel) (pa_cons (pe_lc (own := [("column", 2)]) (g := gName 2) rfl sc_columns_in.nd (pi_range1 rfl T.b_range (pa_cons (pv 0) pa_nil)) (blkOk_by (N := ["many", "bits", "column"]) (sc := defScope s_columns_in) (by decide +kernel)) (fun _ _ _ _ _ => pg_name (i := 2) sc_columns_in.nd rfl (Or.inl rfl)) (fun _ _ _ _ _ => pts_one (pt_cmpR op_eq (pe_op op_and (pe_op op_shr (pv 1) (pv 2)) pe_int) pe_int (nomark _))) (fun _ _ _ _ _ => (pv 2))) pa_nil)))), ?_⟩
  rintro vs Q ⟨⟨many, bits⟩, ⟨v, u, rfl, rfl, rfl, hm⟩, k⟩
  change many ≤ 5 at hm
  refine Evl.s_retU (evu_tuple (evl_lcR1 many (fun c => Builtin.bitAnd (((bits / 2 ^ c : Nat)) : Int) 1 == 1) (fun (c : Nat) => V.int (c : Int)) (ea_cons (ev_var rfl) ea_nil) (Int.toNat_natCast _) (by show -100000 ≤ (many : Int) ∧ (many : Int) ≤ 100000; omega) (by omega) (fun _ => rfl) ?_ fun c _ _ H1 _ => ev_var rfl)) fun p H1 _ e hp => k _ H1 e ⟨p, rfl, SqT.of (by rw [hp, nV_map]; rfl)⟩
  intro c hc H1 e
  refine Evl.et_is (Evl.et_test (ev_eqI (ev_I0 (ev_I (ev_var rfl) (ev_var rfl) (Int.natCast_nonneg c)) ev_c) ev_c)) ?_
  have e0 : (bits : Int) / 2 ^ ((c : Int)).toNat = ((bits / 2 ^ c : Nat) : Int) := by
    rw [Int.toNat_natCast]
    norm_cast
  show decide (Builtin.bitAnd ((bits : Int) / 2 ^ ((c : Int)).toNat) 1 = 1) = _
  rw [e0, beq_dec]
theorem fn_is_part (T : Tops K mg ad) : Fn P w K mg base "is_part" 1 ["some", "columns"] (spV (A2 fun (x : List Nat × List Nat) v u H => isB K x.1 v H ∧ isB K x.2 u H ∧ x.1.length ≤ 1000) fun x => .bl (x.1.all x.2.contains)) := by
  refine Fn.mk' T.f_is_part sc_is_part lV2 fun cdv f A outer s H E hr => ⟨_, (pss_one (ps_ret (pe_callB (cr_all rfl) (by rfl) T.b_all (by decide +kernel) (pa_cons (pe_lc (own := [("column", 2)]) (g := gName 2) (tt := tYes) rfl sc_is_part.nd (pi_tup (pv 0)) (blkOk_by (N := ["some", "columns", "column"]) (sc := defScope s_is_part) (by decide +kernel)) (fun _ _ _ _ _ => pg_name (i := 2) sc_is_part.nd rfl (Or.inl rfl)) (fun _ _ _ _ _ => pts_nil) (fun _ _ _ _ _ => (pe_cmpR (op_inSeqK K rfl) (pv 2) (pv 1) rfl))) pa_nil)))), ?_⟩
  rintro vs Q ⟨⟨s, cs⟩, ⟨v, u, rfl, ⟨a, rfl, ha⟩, ⟨b, rfl, hb⟩, hz⟩, k⟩
  change SqT K H a (nV s) at ha
  change SqT K H b (nV cs) at hb
  change s.length ≤ 1000 at hz
  exact Evl.s_ret (ev_allB cs.contains (ev_var rfl) ha (by omega) (fun _ => rfl) fun n _ H1 e => ev_bool (ev_inT (ev_var rfl) (ev_var rfl) (SqT.ex e hb)) (nI_contains cs n)) k
theorem fn_column_sets (T : Tops K mg ad) : Fn P w K mg base "column_sets" 2 ["many"] (spN (A1 fun (many : Nat) v H => v = .int (many : Nat) ∧ many ≤ 5) fun many p H => ∃ ys, H p = some (.lst ys) ∧ DpAll K H ys ((Vatdfa.sets many).map bD)) := by
  refine Fn.mk' T.f_column_sets sc_column_sets lN1 fun cdv f A outer s H E hr => ⟨_, (pss_cons (ps_set (i := 1) sc_column_sets.nd rfl (Or.inl rfl) (pe_lst pa_nil))
      (pss_cons (ps_for PassesOwn.never rfl (pi_range1 rfl T.b_range (pa_cons (pe_op op_shl pe_int (pv 0)) pa_nil)) (pg_name (i := 2) sc_column_sets.nd rfl (Or.inl rfl)) (pss_cons (ps_set (i := 3) sc_column_sets.nd rfl (Or.inl rfl) (pe_fn (fn_columns_in T) (hr.mono (by decide)) (pa_cons (pv 0) (pa_cons (pv 2) pa_nil))))
      (pss_one (ps_expr (pe_bm PySem.F.plainAttrs_list PySem.F.slot_list_append PySem.F.type_list_append mt_append (pv 1) (pa_cons (pe_tup (pa_cons (pe_callB call_len_seq (by rfl) T.b_len PySem.boot_len (pa_cons (pv 3) pa_nil)) (pa_cons (pv 3) pa_nil))) pa_nil))))))
      (pss_one (ps_ret (pe_lc (own := [("pair", 4)]) (g := gName 4) (tt := tYes) rfl sc_column_sets.nd (pi_list (pe_callB (cr_sortedD (enc := szD) (P := fun _ => True) hr (fun bs _ => ⟨PySem.W.AllAlike.of alike_szD, PySem.W.Sortable.tuples fun b => ⟨_, _, rfl⟩⟩) (fun b => Nat.le_trans (depth_szD b) (by decide))) (by rfl) T.b_sorted (by decide +kernel) (pa_cons (pv 1) pa_nil))) (blkOk_by (N := ["many", "sized", "bits", "columns", "pair"]) (sc := defScope s_column_sets) (by decide +kernel)) (fun _ _ _ _ _ => pg_name (i := 4) sc_column_sets.nd rfl (Or.inl rfl)) (fun _ _ _ _ _ => pts_nil) (fun _ _ _ _ _ => (pe_ix (ix_tupK K rfl) (pv 4) pe_int (fun _ _ => rfl)))))))), ?_⟩
  rintro vs Q ⟨many, ⟨v, rfl, rfl, hm⟩, k⟩
  have h2 : 2 ^ many ≤ 2 ^ 5 := Nat.pow_le_pow_right (by decide) hm
  obtain ⟨N, hN⟩ : ∃ N, N = 2 ^ many := ⟨_, rfl⟩
  rw [← hN] at h2
  refine Evl.q_asgL (Evl.el_lst ea_nil (Nat.zero_le _)) fun p H1 np e1 hp => ?_
  refine Evl.q_forR1 (n := (N : Nat)) (ea_cons (ev_int (ev_I (ev_c (v := .int 1)) (ev_var rfl) ⟨Int.natCast_nonneg _, by show (many : Int) ≤ 1000000; omega, by decide⟩) ?_) ea_nil) (by omega)
    (fun i σ' H' => Ex H H' ∧ (∃ ys, H' p = some (.lst ys) ∧ DpAll K H' ys ((sizedTo many i).map szD)) ∧ ∃ x y z, σ' = [some (.int (many : Nat)), some (.ref p), x, y, z])
    (fun H2 e2 => ⟨e1.trans e2, ⟨[], e2 _ _ hp, .nil⟩, none, none, none, rfl⟩) ?_ ?_
  · rw [Int.toNat_natCast, Int.one_mul, hN]
    norm_cast
  · rintro i σ' H' hi ⟨e, ⟨ys, hy, hyd⟩, x, y, z, rfl⟩
    refine q_asgP (evp_callP (many, i) (ea_cons (ev_var rfl) (ea_cons (ev_var rfl) ea_nil)) fun H2 e2 => ⟨_, _, rfl, rfl, rfl, hm⟩) ?_
    rintro v H2 e2 ⟨b, rfl, hb⟩
    change SqT K H2 b (nV (colsIn many i)) at hb
    have hyl : ys.length ≤ 100 := by
      have := DpAll.len hyd
      unfold sizedTo at this
      rw [List.length_map, List.length_map, List.length_range] at this
      omega
    refine Evl.s_appU (e2 _ _ hy) (ev_var rfl) (Evl.eu_tup (ea_cons (ev_lenT (ev_var rfl) hb) (ea_cons (ev_var rfl) ea_nil)) (by show 2 ≤ 100000; decide)) (by omega) fun q H3 nq e3 hq => ⟨Ex.mut ((e.trans e2).trans e3) np, ⟨_, upd_same, ?_⟩, _, _, _, rfl⟩
    have hy3 := e3 _ _ (e2 _ _ hy)
    rw [sizedTo_succ, List.map_append]
    refine DpAll.app (stabAll (stab_map stab_szD _) hy3 (DpAll.ex (e2.trans e3) hyd)) (DpAll.one (stab_szD _ _ _ _ _ _ hy3 ?_))
    refine .tup (SqT.of hq) (.cons ?_ (.cons (dp_bD.mpr ⟨b, rfl, SqT.ex e3 hb⟩) .nil))
    rw [nV_len]
    exact .int _
  · rintro σ' H' ⟨e, ⟨ys, hy, hyd⟩, x, y, z, rfl⟩
    rw [Int.toNat_natCast, hN] at hyd
    refine s_retF (evf_lc_src (S := fun v H2 => ∃ q zs, v = .ref q ∧ H2 q = some (.lst zs) ∧ DpAll K H2 zs (((sizedTo many (2 ^ many)).mergeSort (PySem.W.dataLe false szD)).map szD)) ((evp_F (evf_sorted (bs := sizedTo many (2 ^ many)) (enc := szD) (Pd := fun _ => True) (eap_one (evp_dp (ev_var rfl) (dp_list.mpr ⟨p, ys, rfl, SqL.of hy, hyd⟩))) trivial)).imp fun v H2 _ ⟨q, h0, zs, h1, h2⟩ => ⟨q, zs, h0, h1, h2⟩) (P := fun q H2 => ∃ zs, H2 q = some (.lst zs) ∧ DpAll K H2 zs ((Vatdfa.sets many).map bD)) ?_) fun q H4 nq e4 hq => k q H4 (Evl.fresh_back e nq) (e.trans e4) hq
    rintro v H2 e2 ⟨q, zs, rfl, hq, hzd⟩
    obtain ⟨l, f1, f2, f3⟩ := dpAll_pairs hzd
    have hl : l.length ≤ 1000 := by
      have := congrArg List.length f2
      rw [List.length_map, (List.mergeSort_perm _ _).length_eq] at this
      unfold sizedTo at this
      rw [List.length_map, List.length_range, ← hN] at this
      omega
    refine (evf_lcD l (·.1) (fun p => bD p.2.2) (fun p => stab_bD _) (src_L ev_c (by rw [f1]; exact SqL.of hq)) (by omega) (fun _ => rfl) ?_).imp ?_
    · rintro ⟨xv, sz, cs⟩ hp H3 e3
      have := Dp.ex e3 (f3 _ hp)
      cases this with
      | tup s1 s2 =>
        cases s2 with
        | cons t1 t2 =>
          cases t2 with
          | cons t3 t4 =>
            cases t4
            exact evp_dp (ev_ixT (ev_var rfl) ev_c s1 (atI_nat (j := 1) rfl)) t3
    · rintro q' H3 e3 ⟨ws, h1, h2⟩
      refine ⟨ws, h1, ?_⟩
      rw [← sets_sorted many hm, ← f2, List.map_map, List.map_map]
      exact h2
theorem fn_least_keys (T : Tops K mg ad) : Fn P w K mg base "least_keys" 5 ["table"] (spN (A1 fun (t : Table) v H => isTab K ad t v H ∧ Wf t) fun t p H => ∃ ys, H p = some (.lst ys) ∧ DpAll K H ys ((Vatdfa.keys t).map bD)) := by
  refine Fn.mk' T.f_least_keys sc_least_keys lN1 fun cdv f A outer s H E hr => ⟨_, (pss_cons (ps_set (i := 1) sc_least_keys.nd rfl (Or.inl rfl) (pe_lst pa_nil))
      (pss_cons (ps_for PassesOwn.never rfl (pi_list (pe_fn (fn_column_sets T) (hr.mono (by decide)) (pa_cons (pe_callB call_len_seq (by rfl) T.b_len PySem.boot_len (pa_cons (pe_fld (pv 0) rfl) pa_nil)) pa_nil))) (pg_name (i := 2) sc_least_keys.nd rfl (Or.inr rfl)) (pss_one (ps_if (PW.pt (pw_and (pt_not (pt_val (pe_callB (cr_any rfl) (by rfl) T.b_any (by decide +kernel) (pa_cons (pe_lc (own := [("least", 3)]) (g := gName 3) (tt := tYes) rfl sc_least_keys.nd (pi_list (pv 1)) (blkOk_by (N := ["table", "out", "columns", "least"]) (sc := defScope s_least_keys) (by decide +kernel)) (fun _ _ _ _ _ => pg_name (i := 3) sc_least_keys.nd rfl (Or.inl rfl)) (fun _ _ _ _ _ => pts_nil) (fun _ _ _ _ _ => (pe_fn (fn_is_part T) (hr.mono (by decide)) (pa_cons (pv 3) (pa_cons (pv 2) pa_nil))))) pa_nil)))) (pw_and1 (pt_val (pe_fn (fn_is_key T) (hr.mono (by decide)) (pa_cons (pv 0) (pa_cons (pv 2) pa_nil))))))) (pss_one (ps_expr (pe_bm PySem.F.plainAttrs_list PySem.F.slot_list_append PySem.F.type_list_append mt_append (pv 1) (pa_cons (pv 2) pa_nil)))) pss_nil)))
      (pss_one (ps_ret (pv 1))))), ?_⟩
  rintro vs Q ⟨t, ⟨v, rfl, ⟨a, ln, lr, ns, rs, rfl, h⟩, hw⟩, k⟩
  have h5 := hw.n5
  have hsl := sets_len t.names.length h5
  refine Evl.q_asgL (Evl.el_lst ea_nil (Nat.zero_le _)) fun p H1 np e1 hp => ?_
  have h1 := h.ex e1
  refine q_for_srcF (evf_callN t.names.length (ea_cons (ev_int (ev_lenL (ev_names T (ev_var rfl) h1) h1.nl) (by rw [len_names h])) ea_nil) fun H2 e2 => ⟨_, rfl, rfl, h5⟩) ?_
  rintro q H2 nq e2 ⟨zs, hq, hzd⟩
  have hqp : q ≠ p := fun z => by rw [z, hp] at nq; cases nq
  have hzl : zs.length = (Vatdfa.sets t.names.length).length := by have := DpAll.len hzd; rwa [List.length_map] at this
  refine Evl.q_forLn (ev_c (v := .ref q)) (SqL.of hq) (fun i σ' H' => Ex H H' ∧ (∃ ys, H' p = some (.lst ys) ∧ DpAll K H' ys ((keysOf t ((Vatdfa.sets t.names.length).take i)).map bD)) ∧ (H' q = some (.lst zs) ∧ DpAll K H' zs ((Vatdfa.sets t.names.length).map bD)) ∧ ∃ x y, σ' = [some (.ref a), some (.ref p), x, y])
    (fun H3 e3 => ⟨(e1.trans e2).trans e3, ⟨[], e3 _ _ (e2 _ _ hp), .nil⟩, ⟨e3 _ _ hq, DpAll.ex e3 hzd⟩, none, none, rfl⟩) (fun i σ' H' _ h => SqL.of h.2.2.1.1) ?_ ?_
  · rintro i x σ' H' hx ⟨e, ⟨ys, hy, hyd⟩, ⟨hq', hzd'⟩, x2, x3, rfl⟩
    obtain ⟨d, hd1, hd2⟩ := DpAll.at hzd' hx
    obtain ⟨s, hs, rfl⟩ := get_map hd1
    obtain ⟨s5, slt⟩ := sets_ok h5 (List.mem_of_getElem? hs)
    have hsub := keysOf_sub t ((Vatdfa.sets t.names.length).take i) []
    have hkl : ys.length ≤ 32 := by
      have h1 := DpAll.len hyd
      rw [List.length_map] at h1
      have h2 := hsub.1
      rw [List.length_take, List.length_nil] at h2
      unfold keysOf at h1
      omega
    obtain ⟨l, f1, f2, f3⟩ := dpAll_pairs hyd
    have hll : l.length ≤ 32 := by rw [← f1, List.length_map] at hkl; exact hkl
    have hxB : isB K s x H' := isB_dp.mpr hd2
    have hst := keysOf_snoc t ((Vatdfa.sets t.names.length).take i) s
    refine Evl.s_when (Evl.et_and (Evl.et_not (et_val (ev_any (bs := l.map fun p => p.2.all s.contains) (evl_is (evl_lcM l (·.1) (fun p => V.bl (p.2.all s.contains)) (src_L (ev_var rfl) (by rw [f1]; exact SqL.of hy)) (by omega) (fun _ => rfl) ?_) (by rw [List.map_map]; rfl))))) (b := Vatdfa.isKey t s) fun _ => et_val (ev_callV (t, s) (ea_cons (ev_var rfl) (ea_cons (ev_var rfl) ea_nil)) fun H3 e3 => ⟨_, _, rfl, ⟨a, ln, lr, ns, rs, rfl, h.ex (e.trans e3)⟩, hxB.ex e3, hw, by show s.length ≤ 1000; omega, slt⟩)) (fun hb H3 e3 => ?_) fun hb H3 e3 => ?_
    · rintro ⟨xv, k⟩ hp H4 e4
      have hk : k ∈ keysOf t ((Vatdfa.sets t.names.length).take i) := by rw [← f2]; exact List.mem_map.mpr ⟨_, hp, rfl⟩
      have hk5 : k.length ≤ 5 := by
        rcases hsub.2 k hk with q | q
        · simp at q
        · exact (sets_ok h5 (List.mem_of_mem_take q)).1
      exact ev_callV (k, s) (ea_cons (ev_var rfl) (ea_cons (ev_var rfl) ea_nil)) fun H5 e5 => ⟨_, _, rfl, isB_dp.mpr (Dp.ex (e4.trans e5) (f3 _ hp)), hxB.ex (e4.trans e5), by show k.length ≤ 1000; omega⟩
    · have hy3 := e3 _ _ hy
      refine Evl.s_app hy3 (ev_var rfl) (ev_var rfl) (by omega) fun H4 e4 => ?_
      have e34 := e3.trans e4
      have hpq : upd H4 p (.lst (ys ++ [x])) q = some (.lst zs) := by rw [upd_ne hqp]; exact e34 _ _ hq'
      refine ⟨Ex.mut (e.trans e34) np, ⟨_, upd_same, ?_⟩, ⟨hpq, stabAll (stab_map stab_bD _) (e34 _ _ hy) (DpAll.ex e34 hzd')⟩, _, _, rfl⟩
      rw [take_succ_get hs, hst]
      have hc : (Vatdfa.isKey t s && !(keysOf t ((Vatdfa.sets t.names.length).take i)).any fun k => k.all s.contains) = true := by
        rw [← f2, List.any_map]
        rw [List.any_map] at hb
        rw [Bool.and_comm]
        exact hb
      unfold keyStep
      rw [if_pos hc, List.map_append]
      exact DpAll.app (stabAll (stab_map stab_bD _) (e34 _ _ hy) (DpAll.ex e34 hyd)) (DpAll.one (stab_bD _ _ _ _ _ _ (e34 _ _ hy) (Dp.ex e34 hd2)))
    · refine ⟨e.trans e3, ⟨ys, e3 _ _ hy, ?_⟩, ⟨e3 _ _ hq', DpAll.ex e3 hzd'⟩, _, _, rfl⟩
      rw [take_succ_get hs, hst]
      have hc : (Vatdfa.isKey t s && !(keysOf t ((Vatdfa.sets t.names.length).take i)).any fun k => k.all s.contains) = false := by
        rw [← f2, List.any_map]
        rw [List.any_map] at hb
        rw [Bool.and_comm]
        exact hb
      unfold keyStep
      rw [hc, if_neg (by decide)]
      exact DpAll.ex e3 hyd
  · rintro σ' H' ⟨e, ⟨ys, hy, hyd⟩, _, x2, x3, rfl⟩
    rw [hzl, List.take_length, keys_is] at hyd
    exact Evl.s_ret (ev_var rfl) fun H2 e2 => k p H2 np (e.trans e2) ⟨ys, e2 _ _ hy, DpAll.ex e2 hyd⟩
end
end Tx
end

section
set_option Elab.async false
set_option linter.all false
set_option maxRecDepth 100000
set_option maxHeartbeats 4000000
set_option exponentiation.threshold 100000
namespace Tx
open PySem PySem.Spec PyProof.Rows L2
open Evl (Ex Ev EvL EvU EvT EvA EvO RV ev_c ev_var ea_nil ea_cons eo_none eo_some)
open VatdfBase (Cell Table)
/-! ### the order of cells, rows -/
theorem bytes_lt : ∀ a b : List Nat, decide (nI a < nI b) = Vatdfa.bytesLess a b
  | [], [] => by simp [Vatdfa.bytesLess]
  | [], b :: m => by simp [Vatdfa.bytesLess]
  | a :: l, [] => by simp [Vatdfa.bytesLess]
  | a :: l, b :: m => by
    have ih := bytes_lt l m
    unfold Vatdfa.bytesLess
    rw [← ih, Bool.eq_iff_iff]
    show decide ((a : Int) :: nI l < (b : Int) :: nI m) = true ↔ _
    rw [decide_eq_true_iff, List.cons_lt_cons_iff]
    simp only [Bool.or_eq_true, Bool.and_eq_true, decide_eq_true_eq, beq_iff_eq]
    have h1 : ((a : Int) < (b : Int)) ↔ a < b := by omega
    have h2 : ((a : Int) = (b : Int)) ↔ a = b := by omega
    rw [h1, h2]
theorem cell_lt (a b : Cell) : PySem.W.dataLt (cD a) (cD b) = Vatdfa.less a b := by
  unfold cD
  rw [dataLt_tupI]
  have ne : ∀ {a b : Int} {l m : List Int}, a ≠ b → decide (a :: l < b :: m) = decide (a < b) := fun {a b l m} h => decide_eq_decide.mpr (by rw [List.cons_lt_cons_iff]; exact ⟨fun q => q.elim id fun q => absurd q.1 h, .inl⟩)
  cases a with
  | empty =>
    cases b with
    | empty => rfl
    | num z => exact ne (by decide)
    | word u => exact ne (by decide)
  | num y =>
    cases b with
    | empty => exact ne (by decide)
    | num z =>
      show decide ((1 : Int) :: [y] < 1 :: [z]) = decide (y < z)
      exact decide_eq_decide.mpr (by rw [List.cons_lt_cons_iff, List.cons_lt_cons_iff]; simp)
    | word u => exact ne (by decide)
  | word v =>
    cases b with
    | empty => exact ne (by decide)
    | num z => exact ne (by decide)
    | word u =>
      show decide ((2 : Int) :: nI v < 2 :: nI u) = Vatdfa.bytesLess v u
      rw [← bytes_lt]
      exact decide_eq_decide.mpr (by rw [List.cons_lt_cons_iff]; simp)
theorem row_lt : ∀ a b : List Cell, a.length = b.length → PySem.W.dataLt (rD a) (rD b) = Vatdfa.rowLess a b
  | [], [], _ => by
    unfold rD
    rw [PySem.W.dataLt_tuple]
    rfl
  | [], _ :: _, h => by simp at h
  | _ :: _, [], h => by simp at h
  | x :: a, y :: b, h => by
    have ih := row_lt a b (by simpa using h)
    unfold rD at ih ⊢
    rw [PySem.W.dataLt_tuple] at ih ⊢
    rw [List.map_cons, List.map_cons, PySem.W.dataLt_cons (alike_cD x y), eqv_cD, cell_lt, ih]
    show _ = (Vatdfa.less x y || (x == y && Vatdfa.rowLess a b))
    by_cases e : x = y
    · subst e
      have hl : Vatdfa.less x x = false := by
        rw [← cell_lt]
        exact PyProof.Rows.lex_irrefl _
      simp [hl]
    · rw [if_neg (by simpa using e)]
      have : (x == y) = false := beq_eq_false_iff_ne.mpr e
      rw [this, Bool.false_and, Bool.or_false]
def plD (p : List Cell × Nat) : PyData := .tuple [rD p.1, .int (p.2 : Int)]
theorem stab_plD {K : PySem.W.Frag} (p : List Cell × Nat) : Stab K (plD p) := stab_tup fun d hd => by
  rcases List.mem_cons.mp hd with rfl | hd
  · exact stab_rD _
  · rcases List.mem_cons.mp hd with rfl | hd
    · exact stab_int _
    · simp at hd
theorem alike_plD (p q : List Cell × Nat) : PySem.W.alike (plD p) (plD q) = true := by
  unfold plD
  rw [PySem.W.alike, PySem.W.alikeAll, PySem.W.alikeAll, PySem.W.alikeAll, alike_rD, PySem.W.alike]
  rfl
theorem depth_plD (p : List Cell × Nat) : (plD p).depth ≤ 3 := by
  unfold plD
  have h := depth_rD p.1
  simp [PyData.depth, PyData.depthAll]
  omega
theorem eqv_plD {p q : List Cell × Nat} (h : PyData.eqv (plD p) (plD q) = true) : p = q := by
  unfold plD at h
  rw [PyData.eqv, PyData.eqvAll, PyData.eqvAll, PyData.eqvAll, eqv_rD, PyData.eqv] at h
  simp only [Bool.and_true, Bool.and_eq_true, decide_eq_true_eq, beq_iff_eq] at h
  obtain ⟨a, b⟩ := p
  obtain ⟨c, d⟩ := q
  have h1 : a = c := h.1
  have h2 : b = d := by have := h.2; omega
  rw [h1, h2]
theorem plLt_is (p q : List Cell × Nat) (hl : p.1.length = q.1.length) : PySem.W.dataLt (plD p) (plD q) = if p.1 = q.1 then decide (p.2 < q.2) else Vatdfa.rowLess p.1 q.1 := by
  unfold plD
  rw [PySem.W.dataLt_pair (alike_rD _ _) (by rw [PySem.W.alike]), eqv_rD, PySem.W.dataLt_int, row_lt _ _ hl, PyData.eqv]
  by_cases h1 : p.1 = q.1
  · rw [if_pos (by simpa using h1), if_pos h1]
    by_cases h2 : p.2 = q.2
    · rw [if_pos (by simp [h2])]
      exact (decide_eq_false (by omega)).symm
    · rw [if_neg (by rw [beq_iff_eq]; omega), cast_lt]
  · rw [if_neg (by simpa using h1), if_neg h1]
theorem rowLess_irrefl (a : List Cell) : Vatdfa.rowLess a a = false := by
  rw [← row_lt a a rfl]
  exact PyProof.Rows.lex_irrefl _
/-- sorted(placed): the rows' numbers put in order -/
theorem order_is (t : Table) (cs : List Nat) : ((placed t cs t.rows.length).mergeSort (PySem.W.dataLe false plD)).map (·.2) = Vatdfa.sorted t cs := by
  have hp : ((putAll cs (rowsNum t)).map fun x => (Vatdfa.pick cs x.2, x.1)).Perm (placed t cs t.rows.length) := by
    rw [← placed_is]
    exact ((putAll_perm cs (rowsNum t) []).map _)
  have hle : ∀ x y : Nat × TRow, y.1 < x.1 → PySem.W.dataLt (plD (Vatdfa.pick cs x.2, x.1)) (plD (Vatdfa.pick cs y.2, y.1)) = Vatdfa.rowLess (Vatdfa.pick cs x.2) (Vatdfa.pick cs y.2) := by
    intro x y h
    rw [plLt_is _ _ (by unfold Vatdfa.pick; rw [List.length_map, List.length_map])]
    dsimp only
    by_cases e : Vatdfa.pick cs x.2 = Vatdfa.pick cs y.2
    · rw [if_pos e, e, rowLess_irrefl]
      exact decide_eq_false (by omega)
    · rw [if_neg e]
  have hs : ((putAll cs (rowsNum t)).map fun x => (Vatdfa.pick cs x.2, x.1)).Pairwise fun a b => PySem.W.dataLe false plD a b = true := by
    rw [List.pairwise_map]
    refine putAll_sorted cs (fun a b => PySem.W.dataLe false plD (Vatdfa.pick cs a.2, a.1) (Vatdfa.pick cs b.2, b.1) = true) (fun a b c h1 h2 => (dataLe_total plD).trans _ _ _ h1 h2) (fun x y h => ⟨fun hr => ?_, fun hr => ?_⟩) (rowsNum t) [] .nil (by simp) (rowsNum_pair t)
    · rcases (dataLe_total plD).total (Vatdfa.pick cs x.2, x.1) (Vatdfa.pick cs y.2, y.1) with q | q
      · exact q
      · rw [dataLe_is, hle x y h, hr] at q
        cases q
    · rw [dataLe_is, hle x y h, hr]
      rfl
  rw [sort_is alike_plD (fun a b => eqv_plD) hp hs, List.map_map, sorted_is]
  rfl
section
variable {P : Program} {w : World} {K : PySem.W.Frag} {mg : Str → Option Value} {base : Heap} {ad : Ads}
theorem fn_picked (T : Tops K mg ad) : Fn P w K mg base "picked" 1 ["row", "columns"] (spP (A2 fun (x : TRow × List Nat) v u H => Dp K H v (rD x.1) ∧ isL K (nI x.2) u H ∧ x.2.length ≤ 1000 ∧ ∀ c ∈ x.2, c < x.1.length) fun x v H => Dp K H v (rD (Vatdfa.pick x.2 x.1))) := by
  refine Fn.mk' T.f_picked sc_picked lP2 fun cdv f A outer s H E hr => ⟨_, (pss_one (ps_ret (pe_callTy call_tuple_of (by rfl) T.b_tuple (by decide +kernel) (pa_cons (pe_lc (own := [("column", 2)]) (g := gName 2) (tt := tYes) rfl sc_picked.nd (pi_list (pv 1)) (blkOk_by (N := ["row", "columns", "column"]) (sc := defScope s_picked) (by decide +kernel)) (fun _ _ _ _ _ => pg_name (i := 2) sc_picked.nd rfl (Or.inl rfl)) (fun _ _ _ _ _ => pts_nil) (fun _ _ _ _ _ => (pe_ix (ix_tupK K rfl) (pv 0) (pv 2) (fun _ _ => rfl)))) pa_nil)))), ?_⟩
  rintro vs Q ⟨⟨r, cs⟩, ⟨v, u, rfl, hr, ⟨b, rfl, hb⟩, hz, hlt⟩, k⟩
  change SqL K H b (nV cs) at hb
  change cs.length ≤ 1000 at hz
  change ∀ c ∈ cs, c < r.length at hlt
  obtain ⟨a, xs, rfl, hs, hd⟩ := dp_rD.mp hr
  refine s_retP (evp_tupleD (evf_lcD cs (fun (n : Nat) => V.int (n : Int)) (fun c => cD (VatdfBase.cellAt r c)) (fun c => stab_cD _) (src_L (ev_var rfl) (by rw [← nV_map]; exact hb)) (by omega) (fun _ => rfl) ?_)) fun v H1 e hv => k v H1 e ?_
  · intro c hc H1 e
    obtain ⟨cv, h1, h2⟩ := cell_in (DpAll.ex e hd) (hlt c hc)
    exact evp_dp (ev_ixT (ev_var rfl) (ev_var rfl) (SqT.ex e hs) (atI_nat h1)) h2
  · show Dp K H1 v (rD (Vatdfa.pick cs r))
    unfold rD Vatdfa.pick
    rw [List.map_map]
    exact hv
theorem pick_len (cs : List Nat) (r : TRow) : (Vatdfa.pick cs r).length = cs.length := by unfold Vatdfa.pick; rw [List.length_map]
theorem fn_ordered_rows (T : Tops K mg ad) : Fn P w K mg base "ordered_rows" 2 ["table", "columns"] (spL (A2 fun (x : Table × List Nat) v u H => isTab K ad x.1 v H ∧ isL K (nI x.2) u H ∧ Wf x.1 ∧ x.2.length ≤ 1000 ∧ ∀ c ∈ x.2, c < x.1.names.length) fun x => nV (Vatdfa.sorted x.1 x.2)) := by
  refine Fn.mk' T.f_ordered_rows sc_ordered_rows lN2 fun cdv f A outer s H E hr => ⟨_, (pss_cons (ps_set (i := 2) sc_ordered_rows.nd rfl (Or.inl rfl) (pe_lst pa_nil))
      (pss_cons (ps_for PassesOwn.never rfl (pi_range1 rfl T.b_range (pa_cons (pe_callB call_len_seq (by rfl) T.b_len PySem.boot_len (pa_cons (pe_fld (pv 0) rfl) pa_nil)) pa_nil)) (pg_name (i := 3) sc_ordered_rows.nd rfl (Or.inl rfl)) (pss_one (ps_expr (pe_bm PySem.F.plainAttrs_list PySem.F.slot_list_append PySem.F.type_list_append mt_append (pv 2) (pa_cons (pe_tup (pa_cons (pe_fn (fn_picked T) (hr.mono (by decide)) (pa_cons (pe_ix ix_list (pe_fld (pv 0) rfl) (pv 3) (fun _ _ => rfl)) (pa_cons (pv 1) pa_nil))) (pa_cons (pv 3) pa_nil))) pa_nil)))))
      (pss_one (ps_ret (pe_lc (own := [("pair", 4)]) (g := gName 4) (tt := tYes) rfl sc_ordered_rows.nd (pi_list (pe_callB (cr_sortedD (enc := plD) (P := fun _ => True) hr (fun bs _ => ⟨PySem.W.AllAlike.of alike_plD, PySem.W.Sortable.tuples fun b => ⟨_, _, rfl⟩⟩) (fun b => Nat.le_trans (depth_plD b) (by decide))) (by rfl) T.b_sorted (by decide +kernel) (pa_cons (pv 2) pa_nil))) (blkOk_by (N := ["table", "columns", "placed", "k", "pair"]) (sc := defScope s_ordered_rows) (by decide +kernel)) (fun _ _ _ _ _ => pg_name (i := 4) sc_ordered_rows.nd rfl (Or.inl rfl)) (fun _ _ _ _ _ => pts_nil) (fun _ _ _ _ _ => (pe_ix (ix_tupK K rfl) (pv 4) pe_int (fun _ _ => rfl)))))))), ?_⟩
  rintro vs Q ⟨⟨t, cs⟩, ⟨v, u, rfl, ⟨a, ln, lr, ns, rs, rfl, h⟩, ⟨b, rfl, hb⟩, hw, hz, hlt⟩, k⟩
  change SqL K H b (nV cs) at hb
  change cs.length ≤ 1000 at hz
  change ∀ c ∈ cs, c < t.names.length at hlt
  change TabAt K ad H t a ln lr ns rs at h
  change Wf t at hw
  have h12 := hw.r12
  refine Evl.q_asgL (Evl.el_lst ea_nil (Nat.zero_le _)) fun p H1 np e1 hp => ?_
  refine Evl.q_forR1 (n := t.rows.length) (ea_cons (ev_int (ev_lenL (ev_rows T (ev_var rfl) (h.ex e1)) (h.ex e1).rl) (by rw [len_rows h])) ea_nil) (by omega)
    (fun i σ' H' => Ex H H' ∧ (∃ ys, H' p = some (.lst ys) ∧ DpAll K H' ys ((placed t cs i).map plD)) ∧ ∃ x y, σ' = [some (.ref a), some (.ref b), some (.ref p), x, y])
    (fun H2 e2 => ⟨e1.trans e2, ⟨[], e2 _ _ hp, .nil⟩, none, none, rfl⟩) ?_ ?_
  · rintro i σ' H' hi ⟨e, ⟨ys, hy, hyd⟩, x, y, rfl⟩
    have hi' : i < t.rows.length := by omega
    obtain ⟨r, hr⟩ : ∃ r, t.rows[i]? = some r := ⟨_, List.getElem?_eq_getElem hi'⟩
    have he := h.ex e
    obtain ⟨bi, xi, g1, g2, g3⟩ := row_at he hr
    have li := hw.rl r (List.mem_of_getElem? hr)
    have er : t.row i = r := by unfold VatdfBase.Table.row; rw [hr]; rfl
    have hyl : ys.length ≤ 12 := by
      have := DpAll.len hyd
      unfold placed at this
      rw [List.length_map, List.length_map, List.length_range] at this
      omega
    refine s_appP hy (ev_var rfl) (evp_tup2 (evp_callPP (r, cs) (eap_two (evp_of (ev_ixL (ev_rows T (ev_var rfl) he) (ev_var rfl) he.rl (atI_nat g1))) mo_eq (evp_of (ev_var rfl))) ?_) mo_dp (evp_of (ev_var rfl))) (Evl.sz_lt (by omega)) ?_
    · rintro vs H2 e2 ⟨v1, v2, rfl, rfl, rfl⟩
      exact ⟨_, _, rfl, Dp.ex e2 (dp_rD.mpr ⟨bi, xi, rfl, g2, g3⟩), ⟨b, rfl, SqL.ex (e.trans e2) hb⟩, hz, fun c hc => by show c < r.length; rw [li]; exact hlt c hc⟩
    · rintro v H2 e2 ⟨q, v1, v2, rfl, hq, hd1, rfl⟩
      refine ⟨Ex.mut (e.trans e2) np, ⟨_, upd_same, ?_⟩, _, _, rfl⟩
      have hy2 := e2 _ _ hy
      have : placed t cs (i + 1) = placed t cs i ++ [(Vatdfa.pick cs (t.row i), i)] := by unfold placed; rw [List.range_succ, List.map_append]; rfl
      rw [this, List.map_append]
      refine DpAll.app (stabAll (stab_map stab_plD _) hy2 (DpAll.ex e2 hyd)) (DpAll.one (stab_plD _ _ _ _ _ _ hy2 ?_))
      rw [er]
      exact .tup (SqT.of hq) (.cons hd1 (.cons (.int _) .nil))
  · rintro σ' H' ⟨e, ⟨ys, hy, hyd⟩, x, y, rfl⟩
    rw [Int.toNat_natCast] at hyd
    refine s_retF (evf_lc_src (S := fun v H2 => ∃ q zs, v = .ref q ∧ H2 q = some (.lst zs) ∧ DpAll K H2 zs (((placed t cs t.rows.length).mergeSort (PySem.W.dataLe false plD)).map plD)) ((evp_F (evf_sorted (bs := placed t cs t.rows.length) (enc := plD) (Pd := fun _ => True) (eap_one (evp_dp (ev_var rfl) (dp_list.mpr ⟨p, ys, rfl, SqL.of hy, hyd⟩))) trivial)).imp fun v H2 _ ⟨q, h0, zs, h1, h2⟩ => ⟨q, zs, h0, h1, h2⟩) (P := fun q H2 => H2 q = some (.lst (nV (Vatdfa.sorted t cs)))) ?_) fun q H4 nq e4 hq => k q H4 (Evl.fresh_back e nq) (e.trans e4) hq
    rintro v H2 e2 ⟨q, zs, rfl, hq, hzd⟩
    obtain ⟨l, f1, f2, f3⟩ := dpAll_pairs hzd
    have hl : l.length ≤ 12 := by
      have := congrArg List.length f2
      rw [List.length_map, (List.mergeSort_perm _ _).length_eq] at this
      unfold placed at this
      rw [List.length_map, List.length_range] at this
      omega
    have hh := evl_lcM (K := K) (te := tOp (rIxT K) (tVar 4) (tC (.int 1))) (tl := tC (.ref q)) (σ := [some (.ref a), some (.ref b), some (.ref p), x, y]) (H := H2) (j := 4) (vs := [4]) l (·.1) (fun p => V.int (p.2.2 : Nat)) (src_L ev_c (by rw [f1]; exact SqL.of hq)) (by omega) (fun _ => rfl) ?_
    · have e0 : l.map (fun p => V.int (p.2.2 : Nat)) = nV (Vatdfa.sorted t cs) := by
        rw [← order_is t cs, ← f2, List.map_map, nV_map, List.map_map]
        rfl
      rw [e0] at hh
      exact hh
    · rintro ⟨xv, pc, n⟩ hp H3 e3
      have := Dp.ex e3 (f3 _ hp)
      cases this with
      | tup s1 s2 =>
        cases s2 with
        | cons t1 t2 =>
          cases t2 with
          | cons t3 t4 =>
            cases t4
            cases t3
            exact ev_ixT (ev_var rfl) ev_c s1 (atI_nat (j := 1) rfl)
end
end Tx
end

section
set_option Elab.async false
set_option linter.all false
set_option maxRecDepth 100000
set_option maxHeartbeats 4000000
set_option exponentiation.threshold 100000
namespace Tx
open PySem PySem.Spec PyProof.Rows L2
open Evl (Ex Ev EvL EvU EvT EvA EvO RV ev_c ev_var ea_nil ea_cons eo_none eo_some)
open VatdfBase (Cell Table)
section
variable {K : PySem.W.Frag} {σ : L2.St} {H : Hp} {ta tb : TE}
theorem ev_indexD {a : Addr} {y : V} {ds : List PyData} {d z : PyData} {j : Nat} (ha : Ev ta σ H (.ref a)) (hl : Dp K H (.ref a) (.list ds)) (hb : Ev tb σ H y) (hy : Dp K H y d) (s1 : SeqAt.shaped (.list ds) = true) (s2 : SeqAt.shaped d = true)
    (hj : ds[j]? = some z) (hz : PyData.eqv z d = true) (hno : ∀ (m : Nat) (z' : PyData), m < j → ds[m]? = some z' → PyData.eqv z' d = false) : Ev (tBM K "list" (rIndexD K) ta (tCons tb tNil)) σ H (.int (j : Nat)) := fun H1 e Q q =>
  ha H1 e _ fun H2 e2 => ⟨by
    obtain ⟨b, xs, h1, h2, _⟩ := dp_list.mp (Dp.ex (e.trans e2) hl)
    cases h1
    exact Or.inl ⟨rfl, xs, h2⟩, hb H2 (e.trans e2) _ fun H3 e3 => ⟨a, y, d, ds, j, z, rfl, rfl, Dp.ex ((e.trans e2).trans e3) hl, Dp.ex ((e.trans e2).trans e3) hy, s1, s2, hj, hz, hno, q H3 (e2.trans e3)⟩⟩
end
theorem names_any_ne {t : Table} (hw : Wf t) : ∀ n ∈ t.names, n ≠ [] := fun n hn q => by
  have := hw.nm n hn
  rw [q] at this
  cases this
theorem rows_ne {t : Table} (hw : Wf t) : ∀ r ∈ t.rows, r ≠ [] := fun r hr q => by
  have h1 := hw.rl r hr
  have h2 := hw.n1
  rw [q] at h1
  simp at h1
  omega
theorem sortable_rD {bs : List TRow} (h : ∀ r ∈ bs, r ≠ []) : PySem.W.Sortable (bs.map rD) := .inl fun d hd => by
  obtain ⟨r, hr, rfl⟩ := List.mem_map.mp hd
  cases r with
  | nil => exact absurd rfl (h _ hr)
  | cons c r => exact ⟨cD c, r.map cD, rfl⟩
theorem sortable_bD {bs : List (List Nat)} (h : ∀ r ∈ bs, r ≠ []) : PySem.W.Sortable (bs.map bD) := .inl fun d hd => by
  obtain ⟨r, hr, rfl⟩ := List.mem_map.mp hd
  cases r with
  | nil => exact absurd rfl (h _ hr)
  | cons c r => exact ⟨.int (c : Int), (nI r).map .int, rfl⟩
theorem eqv_rD_iff (a b : TRow) : PyData.eqv (rD a) (rD b) = true → a = b := fun h => by rw [eqv_rD] at h; exact of_decide_eq_true h
section
variable {P : Program} {w : World} {K : PySem.W.Frag} {mg : Str → Option Value} {base : Heap} {ad : Ads}
theorem fn_same_rows (T : Tops K mg ad) : Fn P w K mg base "same_rows" 1 ["ones", "others"] (spV (A2 fun (x : List TRow × List TRow) v u H => Dp K H v (.list (x.1.map rD)) ∧ Dp K H u (.list (x.2.map rD)) ∧ (∀ r ∈ x.1, r ≠ []) ∧ ∀ r ∈ x.2, r ≠ []) fun x => .bl (Vatdfa.sameRows x.1 x.2)) := by
  refine Fn.mk' T.f_same_rows sc_same_rows lV2 fun cdv f A outer s H E hr => ⟨_, (pss_one (ps_ret (pe_cmpR (op_eqD hr.units) (pe_callB (cr_sortedD (enc := rD) (P := fun bs => ∀ r ∈ bs, r ≠ []) hr (fun bs h => ⟨PySem.W.AllAlike.of alike_rD, sortable_rD h⟩) (fun b => Nat.le_trans (depth_rD b) (by decide))) (by rfl) T.b_sorted (by decide +kernel) (pa_cons (pv 0) pa_nil)) (pe_callB (cr_sortedD (enc := rD) (P := fun bs => ∀ r ∈ bs, r ≠ []) hr (fun bs h => ⟨PySem.W.AllAlike.of alike_rD, sortable_rD h⟩) (fun b => Nat.le_trans (depth_rD b) (by decide))) (by rfl) T.b_sorted (by decide +kernel) (pa_cons (pv 1) pa_nil)) (nomark _)))), ?_⟩
  rintro vs Q ⟨⟨l, m⟩, ⟨v, u, rfl, h1, h2, n1, n2⟩, k⟩
  have hs : ∀ (i : Nat) (x : V) (l : List TRow), (start ["ones", "others"] [v, u])[i]? = some (some x) → Dp K H x (.list (l.map rD)) → (∀ r ∈ l, r ≠ []) → EvP (tCB (rSortedD K rD (fun bs => ∀ r ∈ bs, r ≠ [])) (tCons (tVar i) tNil)) (start ["ones", "others"] [v, u]) H (fun x H2 => Dp K H2 x (.list ((l.mergeSort (PySem.W.dataLe false rD)).map rD))) := fun i x l hi hx hn =>
    (evp_F (evf_sorted (bs := l) (enc := rD) (Pd := fun bs => ∀ r ∈ bs, r ≠ []) (eap_one (evp_dp (ev_var hi) hx)) hn)).imp fun v H2 _ ⟨p, h0, ys, h1, h2⟩ => dp_list.mpr ⟨p, ys, h0, SqL.of h1, h2⟩
  refine Evl.s_ret (ev_bool (ev_eqD (hs 0 v l rfl h1 n1) (hs 1 u m rfl h2 n2) (shaped_list lay_rD depth_rD (by decide) _) (shaped_list lay_rD depth_rD (by decide) _) (eqv_list eqv_rD _ _)) ?_) k
  show decide (l.mergeSort (PySem.W.dataLe false rD) = m.mergeSort (PySem.W.dataLe false rD)) = Vatdfa.sameRows l m
  rw [Bool.eq_iff_iff, sameRows_iff, decide_eq_true_iff]
  exact sort_eq_iff alike_rD eqv_rD_iff
theorem fn_rows_by_names (T : Tops K mg ad) : Fn P w K mg base "rows_by_names" 2 ["table", "names"] (spP (A2 fun (x : Table × List (List Nat)) v u H => isTab K ad x.1 v H ∧ Dp K H u (.list (x.2.map bD)) ∧ Wf x.1 ∧ x.2.length ≤ 5 ∧ ∀ n ∈ x.2, n ∈ x.1.names) fun x v H => Dp K H v (.list ((x.1.rows.map (Vatdfa.pick (places x.2 x.1.names))).map rD))) := by
  refine Fn.mk' T.f_rows_by_names sc_rows_by_names lP2 fun cdv f A outer s H E hr => ⟨_, (pss_cons (ps_set (i := 2) sc_rows_by_names.nd rfl (Or.inr rfl) (pe_lc (own := [("name", 3)]) (g := gName 3) (tt := tYes) rfl sc_rows_by_names.nd (pi_list (pv 1)) (blkOk_by (N := ["table", "names", "columns", "name", "row"]) (sc := defScope s_rows_by_names) (by decide +kernel)) (fun _ _ _ _ _ => pg_name (i := 3) sc_rows_by_names.nd rfl (Or.inl rfl)) (fun _ _ _ _ _ => pts_nil) (fun _ _ _ _ _ => (pe_bmK K rfl PySem.F.plainAttrs_list PySem.F.slot_list_index PySem.F.type_list_index (mt_indexDK K rfl (hu65 hr)) (pe_fldK K rfl (pv 0) rfl) (pa_cons (pv 3) pa_nil)))))
      (pss_one (ps_ret (pe_lc (own := [("row", 4)]) (g := gName 4) (tt := tYes) rfl sc_rows_by_names.nd (pi_list (pe_fld (pv 0) rfl)) (blkOk_by (N := ["table", "names", "columns", "name", "row"]) (sc := defScope s_rows_by_names) (by decide +kernel)) (fun _ _ _ _ _ => pg_name (i := 4) sc_rows_by_names.nd rfl (Or.inl rfl)) (fun _ _ _ _ _ => pts_nil) (fun _ _ _ _ _ => (pe_fn (fn_picked T) (hr.mono (by decide)) (pa_cons (pv 4) (pa_cons (pv 2) pa_nil)))))))), ?_⟩
  rintro vs Q ⟨⟨t, nms⟩, ⟨v, u, rfl, ⟨a, ln, lr, ns, rs, rfl, h⟩, hu, hw, hz, hin⟩, k⟩
  change Dp K H u (.list (nms.map bD)) at hu
  change nms.length ≤ 5 at hz
  change ∀ n ∈ nms, n ∈ t.names at hin
  change TabAt K ad H t a ln lr ns rs at h
  change Wf t at hw
  have h12 := hw.r12
  obtain ⟨b, us, rfl, hb, hbd⟩ := dp_list.mp hu
  obtain ⟨l, f1, f2, f3⟩ := dpAll_pairs hbd
  have hll : l.length ≤ 5 := by rw [← f2, List.length_map] at hz; exact hz
  have hpl : l.map (fun p => V.int ((t.names.findIdx fun m => m == p.2 : Nat) : Int)) = nV (places nms t.names) := by
    rw [nV_map]
    unfold places
    rw [← f2, List.map_map, List.map_map]
    rfl
  have hplt : ∀ c ∈ places nms t.names, c < t.names.length := fun c hc => by
    unfold places at hc
    obtain ⟨n, hn, rfl⟩ := List.mem_map.mp hc
    exact place_lt (hin n hn)
  refine Evl.q_asgL (evl_is (evl_lcM l (·.1) (fun p => V.int ((t.names.findIdx fun m => m == p.2 : Nat) : Int)) (src_L (ev_var rfl) (by rw [f1]; exact hb)) (by omega) (fun _ => rfl) ?_) hpl) fun p H1 np e1 hp => ?_
  · rintro ⟨x, n⟩ hp H1 e
    have hn : n ∈ t.names := hin n (by rw [← f2]; exact List.mem_map.mpr ⟨_, hp, rfl⟩)
    have hlt := place_lt hn
    have he := h.ex e
    refine ev_indexD (z := bD (t.names[t.names.findIdx fun m => m == n])) (ev_names T (ev_var rfl) he) (dp_list.mpr ⟨ln, ns, rfl, he.nl, he.nd⟩) (ev_var rfl) (Dp.ex e (f3 _ hp)) (shaped_list lay_bD depth_bD (by decide) _) (shaped_bD _) ?_ ?_ ?_
    · rw [List.getElem?_map, List.getElem?_eq_getElem hlt]
      rfl
    · rw [eqv_bD]
      have := List.findIdx_getElem (w := hlt)
      rw [beq_iff_eq] at this
      exact decide_eq_true this
    · intro m z' hm hz'
      have hml : m < t.names.length := Nat.lt_trans hm hlt
      obtain ⟨y, hy, rfl⟩ := get_map hz'
      rw [eqv_bD]
      have := List.not_of_lt_findIdx hm
      rw [beq_eq_false_iff_ne] at this
      have e2 : t.names[m]'hml = y := by
        rw [List.getElem?_eq_getElem hml] at hy
        exact Option.some.inj hy
      rw [e2] at this
      exact decide_eq_false this
  · have h1 := h.ex e1
    obtain ⟨l2, g1, g2, g3⟩ := dpAll_pairs h1.rd
    have hl2 : l2.length = t.rows.length := by rw [← g2, List.length_map]
    refine s_retF (evf_lcD l2 (·.1) (fun p => rD (Vatdfa.pick (places nms t.names) p.2)) (fun p => stab_rD _) (src_L (ev_rows T (ev_var rfl) h1) (by rw [g1]; exact h1.rl)) (by omega) (fun _ => rfl) ?_) ?_
    · rintro ⟨x, r⟩ hx H2 e2
      have hr : r ∈ t.rows := by rw [← g2]; exact List.mem_map.mpr ⟨_, hx, rfl⟩
      have hrl := hw.rl r hr
      exact evp_callP (r, places nms t.names) (ea_cons (ev_var rfl) (ea_cons (ev_var rfl) ea_nil)) fun H3 e3 => ⟨_, _, rfl, Dp.ex (e2.trans e3) (g3 _ hx), ⟨p, rfl, SqL.ex (e2.trans e3) (SqL.of hp)⟩, by
        show (places nms t.names).length ≤ 1000
        unfold places
        rw [List.length_map]
        omega, fun c hc => by show c < r.length; rw [hrl]; exact hplt c hc⟩
    · rintro q H2 nq e2 ⟨ys, hy, hyd⟩
      refine k _ H2 (e1.trans e2) ?_
      show Dp K H2 (.ref q) (.list ((t.rows.map (Vatdfa.pick (places nms t.names))).map rD))
      refine dp_list.mpr ⟨q, ys, rfl, SqL.of hy, ?_⟩
      rw [← g2, List.map_map, List.map_map]
      exact hyd
theorem fn_how_alike (T : Tops K mg ad) : Fn P w K mg base "how_alike" 3 ["one", "other"] (spV (A2 fun (x : Table × Table) v u H => isTab K ad x.1 v H ∧ isTab K ad x.2 u H ∧ Wf x.1 ∧ Wf x.2) fun x => .int (Vatdfa.alike x.1 x.2 : Nat)) := by
  refine Fn.mk' T.f_how_alike sc_how_alike lV2 fun cdv f A outer s H E hr => ⟨_, (pss_cons (ps_if (pt_cmpR (op_eqD hr.units) (pe_fld (pv 0) rfl) (pe_fld (pv 1) rfl) (nomark _)) (pss_cons (ps_if (pt_cmpR (op_eqD hr.units) (pe_fld (pv 0) rfl) (pe_fld (pv 1) rfl) (nomark _)) (pss_one (ps_ret pe_int)) pss_nil)
      (pss_cons (ps_if (pt_val (pe_fn (fn_same_rows T) (hr.mono (by decide)) (pa_cons (pe_fld (pv 0) rfl) (pa_cons (pe_fld (pv 1) rfl) pa_nil)))) (pss_one (ps_ret pe_int)) pss_nil)
      (pss_one (ps_ret pe_int)))) pss_nil)
      (pss_cons (ps_if (pt_cmpR (op_neD hr.units) (pe_callB (cr_sortedD (enc := bD) (P := fun bs => ∀ r ∈ bs, r ≠ []) hr (fun bs h => ⟨PySem.W.AllAlike.of alike_bD, sortable_bD h⟩) (fun b => Nat.le_trans (depth_bD b) (by decide))) (by rfl) T.b_sorted (by decide +kernel) (pa_cons (pe_fld (pv 0) rfl) pa_nil)) (pe_callB (cr_sortedD (enc := bD) (P := fun bs => ∀ r ∈ bs, r ≠ []) hr (fun bs h => ⟨PySem.W.AllAlike.of alike_bD, sortable_bD h⟩) (fun b => Nat.le_trans (depth_bD b) (by decide))) (by rfl) T.b_sorted (by decide +kernel) (pa_cons (pe_fld (pv 1) rfl) pa_nil)) (nomark _)) (pss_one (ps_ret pe_int)) pss_nil)
      (pss_cons (ps_if (pt_val (pe_fn (fn_same_rows T) (hr.mono (by decide)) (pa_cons (pe_fld (pv 0) rfl) (pa_cons (pe_fn (fn_rows_by_names T) (hr.mono (by decide)) (pa_cons (pv 1) (pa_cons (pe_fld (pv 0) rfl) pa_nil))) pa_nil)))) (pss_one (ps_ret pe_int)) pss_nil)
      (pss_one (ps_ret pe_int))))), ?_⟩
  rintro vs Q ⟨⟨t, t'⟩, ⟨v, u, rfl, ⟨a, ln, lr, ns, rs, rfl, h⟩, ⟨a', ln', lr', ns', rs', rfl, h'⟩, hw, hw'⟩, k⟩
  change TabAt K ad H t a ln lr ns rs at h
  change TabAt K ad H t' a' ln' lr' ns' rs' at h'
  change Wf t at hw
  change Wf t' at hw'
  have k' : ∀ (n : Nat) (H' : Hp), Ex H H' → n = alikeP t t' → Q (.int (n : Nat)) H' := fun n H' e hn => by
    have := k H' e
    rw [hn, alike_is hw hw']
    exact this
  have dn : ∀ H', Ex H H' → Dp K H' (.ref ln) (.list (t.names.map bD)) := fun H' e => dp_list.mpr ⟨ln, ns, rfl, (h.ex e).nl, (h.ex e).nd⟩
  have dn' : ∀ H', Ex H H' → Dp K H' (.ref ln') (.list (t'.names.map bD)) := fun H' e => dp_list.mpr ⟨ln', ns', rfl, (h'.ex e).nl, (h'.ex e).nd⟩
  have dr : ∀ H', Ex H H' → Dp K H' (.ref lr) (.list (t.rows.map rD)) := fun H' e => dp_list.mpr ⟨lr, rs, rfl, (h.ex e).rl, (h.ex e).rd⟩
  have dr' : ∀ H', Ex H H' → Dp K H' (.ref lr') (.list (t'.rows.map rD)) := fun H' e => dp_list.mpr ⟨lr', rs', rfl, (h'.ex e).rl, (h'.ex e).rd⟩
  have evn : ∀ H', Ex H H' → Ev (tFld K (tVar 0) "names") (start ["one", "other"] [.ref a, .ref a']) H' (.ref ln) := fun H' e => ev_names T (ev_var rfl) (h.ex e)
  have evn' : ∀ H', Ex H H' → Ev (tFld K (tVar 1) "names") (start ["one", "other"] [.ref a, .ref a']) H' (.ref ln') := fun H' e => ev_names T (ev_var rfl) (h'.ex e)
  have evr : ∀ H', Ex H H' → Ev (tFld K (tVar 0) "rows") (start ["one", "other"] [.ref a, .ref a']) H' (.ref lr) := fun H' e => ev_rows T (ev_var rfl) (h.ex e)
  have evr' : ∀ H', Ex H H' → Ev (tFld K (tVar 1) "rows") (start ["one", "other"] [.ref a, .ref a']) H' (.ref lr') := fun H' e => ev_rows T (ev_var rfl) (h'.ex e)
  have r0 := Ex.refl H
  refine Evl.q_when (Evl.et_test (ev_eqD (evp_dp (evn _ r0) (dn _ r0)) (evp_dp (evn' _ r0) (dn' _ r0)) (shaped_list lay_bD depth_bD (by decide) _) (shaped_list lay_bD depth_bD (by decide) _) (eqv_list eqv_bD _ _))) (fun hb H1 e1 => ?_) fun hb H1 e1 => ?_
  · have hn : t.names = t'.names := of_decide_eq_true hb
    refine Evl.q_when (Evl.et_test (ev_eqD (evp_dp (evr _ e1) (dr _ e1)) (evp_dp (evr' _ e1) (dr' _ e1)) (shaped_list lay_rD depth_rD (by decide) _) (shaped_list lay_rD depth_rD (by decide) _) (eqv_list eqv_rD _ _))) (fun hc H2 e2 => ?_) fun hc H2 e2 => ?_
    · have hr : t.rows = t'.rows := of_decide_eq_true hc
      exact Evl.s_ret ev_c fun H3 e3 => k' 3 H3 ((e1.trans e2).trans e3) (by unfold alikeP; rw [if_pos hn, if_pos hr])
    · have hr : ¬ t.rows = t'.rows := of_decide_eq_false hc
      have e12 := e1.trans e2
      refine Evl.q_when (et_val (ev_callV (t.rows, t'.rows) (ea_cons (evr _ e12) (ea_cons (evr' _ e12) ea_nil)) fun H3 e3 => ⟨_, _, rfl, dr _ (e12.trans e3), dr' _ (e12.trans e3), rows_ne hw, rows_ne hw'⟩)) (fun hd H3 e3 => ?_) fun hd H3 e3 => ?_
      · have hs : Vatdfa.sameRows t.rows t'.rows = true := hd
        exact Evl.s_ret ev_c fun H4 e4 => k' 2 H4 ((e12.trans e3).trans e4) (by unfold alikeP; rw [if_pos hn, if_neg hr, if_pos hs])
      · have hs : ¬ Vatdfa.sameRows t.rows t'.rows = true := by rw [show Vatdfa.sameRows t.rows t'.rows = false from hd]; decide
        exact Evl.s_ret ev_c fun H4 e4 => k' 0 H4 ((e12.trans e3).trans e4) (by unfold alikeP; rw [if_pos hn, if_neg hr, if_neg hs])
  · have hn : ¬ t.names = t'.names := of_decide_eq_false hb
    have hs : ∀ (te : TE) (x : V) (l : List (List Nat)), Ev te (start ["one", "other"] [.ref a, .ref a']) H1 x → Dp K H1 x (.list (l.map bD)) → (∀ r ∈ l, r ≠ []) → EvP (tCB (rSortedD K bD (fun bs => ∀ r ∈ bs, r ≠ [])) (tCons te tNil)) (start ["one", "other"] [.ref a, .ref a']) H1 (fun x H2 => Dp K H2 x (.list ((l.mergeSort (PySem.W.dataLe false bD)).map bD))) := fun te x l hi hx hn =>
      (evp_F (evf_sorted (bs := l) (enc := bD) (Pd := fun bs => ∀ r ∈ bs, r ≠ []) (eap_one (evp_dp hi hx)) hn)).imp fun v H2 _ ⟨p, h0, ys, h1, h2⟩ => dp_list.mpr ⟨p, ys, h0, SqL.of h1, h2⟩
    refine Evl.q_when (Evl.et_test (ev_neD (hs _ _ _ (evn _ e1) (dn _ e1) (names_any_ne hw)) (hs _ _ _ (evn' _ e1) (dn' _ e1) (names_any_ne hw')) (shaped_list lay_bD depth_bD (by decide) _) (shaped_list lay_bD depth_bD (by decide) _) (eqv_list eqv_bD _ _))) (fun hc H2 e2 => ?_) fun hc H2 e2 => ?_
    · have hp : ¬ t.names.Perm t'.names := fun q => by
        rw [decide_eq_true ((sort_eq_iff alike_bD fun a b => (eqv_bD_iff a b).mp).mpr q)] at hc
        cases hc
      exact Evl.s_ret ev_c fun H3 e3 => k' 0 H3 ((e1.trans e2).trans e3) (by unfold alikeP; rw [if_neg hn, if_neg hp])
    · have hp : t.names.Perm t'.names := by
        rw [Bool.not_eq_false', decide_eq_true_eq] at hc
        exact (sort_eq_iff alike_bD fun a b => (eqv_bD_iff a b).mp).mp hc
      have e12 := e1.trans e2
      have hne' : ∀ r ∈ t'.rows.map (Vatdfa.pick (places t.names t'.names)), r ≠ [] := fun r hr q => by
        obtain ⟨r', _, rfl⟩ := List.mem_map.mp hr
        have h1 := hw.n1
        have h2 := congrArg List.length q
        unfold Vatdfa.pick places at h2
        rw [List.length_map, List.length_map] at h2
        change t.names.length = 0 at h2
        omega
      refine Evl.q_when (et_val (ev_callVP (t.rows, t'.rows.map (Vatdfa.pick (places t.names t'.names))) (eap_two (evp_dp (evr _ e12) (dr _ e12)) mo_dp (evp_callP (t', t.names) (ea_cons (ev_var rfl) (ea_cons (evn _ e12) ea_nil)) fun H3 e3 => ⟨_, _, rfl, ⟨a', ln', lr', ns', rs', rfl, h'.ex (e12.trans e3)⟩, dn _ (e12.trans e3), hw', hw.n5, fun n hn => hp.mem_iff.mp hn⟩)) ?_)) (fun hd H3 e3 => ?_) fun hd H3 e3 => ?_
      · rintro vs H3 e3 ⟨x, y, rfl, hx, hy⟩
        exact ⟨_, _, rfl, hx, hy, rows_ne hw, hne'⟩
      · have hs : Vatdfa.sameRows t.rows (t'.rows.map (Vatdfa.pick (places t.names t'.names))) = true := hd
        exact Evl.s_ret ev_c fun H4 e4 => k' 1 H4 ((e12.trans e3).trans e4) (by unfold alikeP; rw [if_neg hn, if_pos hp, if_pos hs])
      · have hs : ¬ Vatdfa.sameRows t.rows (t'.rows.map (Vatdfa.pick (places t.names t'.names))) = true := by rw [show Vatdfa.sameRows t.rows (t'.rows.map (Vatdfa.pick (places t.names t'.names))) = false from hd]; decide
        exact Evl.s_ret ev_c fun H4 e4 => k' 0 H4 ((e12.trans e3).trans e4) (by unfold alikeP; rw [if_neg hn, if_pos hp, if_neg hs])
end
end Tx
end

section
set_option Elab.async false
set_option linter.all false
set_option maxRecDepth 100000
set_option maxHeartbeats 4000000
set_option exponentiation.threshold 100000
namespace Tx
open PySem PySem.Spec PyProof.Rows L2
open Evl (Ex Ev EvL EvU EvT EvA EvO RV ev_c ev_var ea_nil ea_cons eo_none eo_some)
open VatdfBase (Cell Table)
/-! ### instances made -/
def spIni (C : Addr) (n : Nat) (F : List V → List (Str × V)) : Sp := fun vs H Q _ => ∃ (p dx : Addr) (args : List V), vs = .ref p :: args ∧ args.length = n ∧ H p = some (.ins C dx []) ∧
  ∀ H' : Hp, H' p = some (.ins C dx (F args)) → (∀ b o, H b = some o → b ≠ p → H' b = some o) → Q .non H'
theorem lIni {C : Addr} {n : Nat} {F : List V → List (Str × V)} : ∀ vs H Q E, spIni C n F vs H Q E → vs.length = n + 1 := fun _ _ _ _ ⟨_, _, _, h, h2, _⟩ => by rw [h, List.length_cons, h2]
section
variable {σ : L2.St} {H : Hp} {ta : TA} {C : Addr} {n : Nat} {F : List V → List (Str × V)} {E : XK}
theorem evf_newP {PA : List V → Hp → Prop} (ha : EvAP ta σ H PA) (m : ∀ vs H H', Ex H H' → PA vs H → PA vs H') (hn : ∀ vs H, PA vs H → vs.length = n) : EvF (tMake C (spIni C n F) [] E ta) σ H (fun p H2 => ∃ dx args, PA args H2 ∧ H2 p = some (.ins C dx (F args))) := fun H1 e Q q =>
  ha H1 e _ fun vs H2 e2 pa x dx hx hd ne => ⟨x, dx, vs, by rw [List.append_nil], hn _ _ pa, upd_same, fun H3 h3 kp => ⟨rfl,
    have s : Ex H2 H3 := Same.made hx hd kp
    q x H3 (Evl.fresh_back e2 hx) (e2.trans s) ⟨dx, vs, m _ _ _ s pa, h3⟩⟩⟩
theorem evf_new {args : List V} (ha : EvA ta σ H args) (hn : args.length = n) : EvF (tMake C (spIni C n F) [] E ta) σ H (fun p H2 => ∃ dx, H2 p = some (.ins C dx (F args))) :=
  (evf_newP (PA := fun vs _ => vs = args) (eap_of ha) (fun _ _ _ _ h => h) (fun _ _ h => by rw [h]; exact hn)).imp fun p H2 _ ⟨dx, a, h1, h2⟩ => ⟨dx, by rw [← h1]; exact h2⟩
end
def tabA : List V → List (Str × V)
  | [x, y] => tabF x y
  | _ => []
/-! ### a line's parts -/
theorem commas_snoc (l : List (List Nat)) (x : List Nat) : Vatdfa.commas (l ++ [x]) = if l = [] then x else Vatdfa.commas l ++ 44 :: x := by
  cases l with
  | nil => simp [Vatdfa.commas]
  | cons a l =>
    rw [if_neg (by simp)]
    induction l generalizing a with
    | nil => simp [Vatdfa.commas]
    | cons b l ih =>
      have := ih b
      unfold Vatdfa.commas at this ⊢
      rw [List.cons_append, List.cons_append, List.intersperse_cons_cons, List.intersperse_cons_cons]
      rw [List.flatMap_cons, List.flatMap_cons, List.flatMap_cons, List.flatMap_cons]
      rw [List.cons_append] at this
      rw [this]
      simp
theorem commas_cons2 (a b : List Nat) (l : List (List Nat)) : Vatdfa.commas (a :: b :: l) = a ++ 44 :: Vatdfa.commas (b :: l) := by
  unfold Vatdfa.commas
  rw [List.intersperse_cons_cons, List.flatMap_cons, List.flatMap_cons]
  rfl
theorem commas_len (c : Nat) : ∀ (l : List (List Nat)), (∀ p ∈ l, p.length ≤ c) → (Vatdfa.commas l).length ≤ (c + 1) * l.length
  | [], _ => by simp [Vatdfa.commas]
  | [a], h => by
    have := h a (by simp)
    simp [Vatdfa.commas]
    omega
  | a :: b :: l, h => by
    have h1 := commas_len c (b :: l) fun p hp => h p (List.mem_cons_of_mem _ hp)
    have h2 := h a List.mem_cons_self
    rw [commas_cons2, List.length_append, List.length_cons, List.length_cons (a := a), Nat.mul_succ]
    omega
theorem commas_zero : Vatdfa.commas [] = [] := rfl
section
variable {P : Program} {w : World} {K : PySem.W.Frag} {mg : Str → Option Value} {base : Heap} {ad : Ads}
theorem in_Table (T : Tops K mg ad) : Ini P w K mg base "Table" ad.Table 1 ["self", "names", "rows"] (spIni ad.Table 2 tabA) := by
  refine Ini.mk' T.i_Table sc_Table_init lIni fun cdv f A outer s H E hr => ⟨_, (pss_cons (ps_fld (pv 0) (pv 1) rfl)
      (pss_one (ps_fld (pv 0) (pv 2) rfl))), ?_⟩
  rintro vs Q ⟨p, dx, args, rfl, hl, hp, k⟩
  match args, hl with
  | [x, y], _ =>
    refine ⟨_, rfl, _, rfl, p, ad.Table, dx, [], rfl, hp, T.k_Table, T.a_Table_names, (by show 0 < 1000; decide), ?_⟩
    refine ⟨_, rfl, _, rfl, p, ad.Table, dx, _, rfl, upd_same, T.k_Table, T.a_Table_rows, (by show 1 < 1000; decide), ?_⟩
    refine k _ (upd_same.trans ?_) fun b o e hb => by rw [upd_ne hb, upd_ne hb]; exact e
    rw [put_nil, put_past (by decide +kernel), put_nil]
    rfl
theorem fn_shown_line (T : Tops K mg ad) : Fn P w K mg base "shown_line" 1 ["parts"] (spL (A1 fun (ps : List (List Nat)) v H => ps.length ≤ 5 ∧ (∀ p ∈ ps, p.length ≤ 100) ∧ ∃ a xs, v = .ref a ∧ H a = some (.lst xs) ∧ Lsts H xs (ps.map nV)) fun ps => nV (Vatdfa.commas ps ++ [10])) := by
  refine Fn.mk' T.f_shown_line sc_shown_line lN1 fun cdv f A outer s H E hr => ⟨_, (pss_cons (ps_set (i := 1) sc_shown_line.nd rfl (Or.inl rfl) (pe_lst pa_nil))
      (pss_cons (ps_for PassesOwn.never rfl (pi_range1 rfl T.b_range (pa_cons (pe_callB call_len_seq (by rfl) T.b_len PySem.boot_len (pa_cons (pv 0) pa_nil)) pa_nil)) (pg_name (i := 2) sc_shown_line.nd rfl (Or.inl rfl)) (pss_cons (ps_if (pt_cmpR op_gt (pv 2) pe_int (nomark _)) (pss_one (ps_expr (pe_bm PySem.F.plainAttrs_list PySem.F.slot_list_append PySem.F.type_list_append mt_append (pv 1) (pa_cons (pe_gi T.c_COMMA) pa_nil)))) pss_nil)
      (pss_one (ps_expr (pe_bm PySem.F.plainAttrs_list PySem.F.slot_list_extend PySem.F.type_list_extend mt_extend (pv 1) (pa_cons (pe_ix ix_list (pv 0) (pv 2) (fun _ _ => rfl)) pa_nil))))))
      (pss_cons (ps_expr (pe_bm PySem.F.plainAttrs_list PySem.F.slot_list_append PySem.F.type_list_append mt_append (pv 1) (pa_cons (pe_gi T.c_LINE_END) pa_nil)))
      (pss_one (ps_ret (pv 1)))))), ?_⟩
  rintro vs Q ⟨ps, ⟨v, rfl, h5, h100, a, xs, rfl, ha, hx⟩, k⟩
  have hxl : xs.length = ps.length := by have := hx.len; rwa [List.length_map] at this
  refine Evl.q_asgL (Evl.el_lst ea_nil (Nat.zero_le _)) fun p H1 np e1 hp => ?_
  have hcl : ∀ i, (Vatdfa.commas (ps.take i)).length ≤ 505 := fun i => by
    have h1 := commas_len 100 (ps.take i) fun p hp => h100 p (List.mem_of_mem_take hp)
    have h2 : (ps.take i).length ≤ 5 := by rw [List.length_take]; omega
    have h3 : (100 + 1) * (ps.take i).length ≤ 101 * 5 := Nat.mul_le_mul (Nat.le_refl _) h2
    omega
  refine Evl.q_forR1 (n := ps.length) (ea_cons (ev_int (ev_lenL (ev_var rfl) (SqL.of (e1 _ _ ha))) (by rw [hxl])) ea_nil) (by omega)
    (fun i σ' H' => Ex H H' ∧ H' p = some (.lst (nV (Vatdfa.commas (ps.take i)))) ∧ ∃ x, σ' = [some (.ref a), some (.ref p), x])
    (fun H2 e2 => ⟨e1.trans e2, e2 _ _ hp, none, rfl⟩) ?_ ?_
  · rintro i σ' H' hi ⟨e, hp', x, rfl⟩
    have hi' : i < ps.length := by omega
    obtain ⟨q, hq⟩ : ∃ q, ps[i]? = some q := ⟨_, List.getElem?_eq_getElem hi'⟩
    have hq100 := h100 q (List.mem_of_getElem? hq)
    obtain ⟨xv, hxv, b, rfl, hb⟩ := paired_get (hx.ex e) (i := i) (y := nV q) (by rw [List.getElem?_map, hq]; rfl)
    have hci := hcl i
    have ext : ∀ H2 (zs : List Nat), Ex H H2 → H2 p = some (.lst (nV zs)) → zs.length ≤ 1000 → zs ++ q = Vatdfa.commas (ps.take (i + 1)) → tDrop (tBM K "list" rExtend (tVar 1) (tCons (tOp (rIxL K) (tVar 0) (tVar 2)) tNil)) { nx := (fun σ' H' => Ex H H' ∧ H' p = some (.lst (nV (Vatdfa.commas (ps.take (i + 1))))) ∧ ∃ x, σ' = [some (.ref a), some (.ref p), x]), rt := Q, bk := tSeq (tDrop (tBM K "list" rAppend (tVar 1) (tCons (tC (.int 10)) tNil))) (tRet (tVar 1)) { nx := fun _ H' => Q .non H', rt := Q }, ct := (fun σ' H' => Ex H H' ∧ H' p = some (.lst (nV (Vatdfa.commas (ps.take (i + 1))))) ∧ ∃ x, σ' = [some (.ref a), some (.ref p), x]) } [some (.ref a), some (.ref p), some (.int (i : Nat))] H2 := by
      intro H2 zs e2 hz hzl he
      obtain ⟨xv2, hxv2, b2, hb2, hb3⟩ := paired_get (hx.ex e2) (i := i) (y := nV q) (by rw [List.getElem?_map, hq]; rfl)
      rw [hxv] at hxv2
      cases hxv2
      cases hb2
      refine s_ext hz (ev_var rfl) (fun H3 e3 Q3 q3 => ev_ixL (K := K) (ev_var rfl) (ev_var rfl) (SqL.of (e2 _ _ ha)) (atI_nat hxv) H3 e3 Q3 fun H4 e4 => q3 _ H4 e4 ⟨b, rfl, (e3.trans e4) _ _ hb3⟩) (by rw [nV_len, nV_len]; exact Evl.sz_of (by omega)) fun H3 e3 => ⟨Ex.mut (e2.trans e3) np, ?_, _, rfl⟩
      rw [upd_same, ← nV_append, he]
    refine Evl.q_when (Evl.et_test (ev_I0 (ev_var rfl) ev_c)) (fun hb H2 e2 => ?_) fun hb H2 e2 => ?_
    · rw [decide_eq_true_eq] at hb
      refine Evl.s_app (e2 _ _ hp') (ev_var rfl) (ev_c (v := .int 44)) (by rw [nV_len]; omega) fun H3 e3 => ?_
      refine ext _ (Vatdfa.commas (ps.take i) ++ [44]) (Ex.mut ((e.trans e2).trans e3) np) (by rw [upd_same, nV_append]; rfl) (by rw [List.length_append]; show _ + 1 ≤ _; omega) ?_
      rw [take_succ_get hq, commas_snoc, if_neg (fun z => by
        have := congrArg List.length z
        rw [List.length_take] at this
        change min i ps.length = 0 at this
        omega), List.append_assoc]
      rfl
    · rw [decide_eq_false_iff_not] at hb
      have h0 : i = 0 := by omega
      refine ext _ (Vatdfa.commas (ps.take i)) (e.trans e2) (e2 _ _ hp') (by omega) ?_
      rw [take_succ_get hq, commas_snoc, h0, if_pos (by rw [List.take_zero])]
      rfl
  · rintro σ' H' ⟨e, hp', x, rfl⟩
    rw [Int.toNat_natCast, List.take_length] at hp'
    have hci := hcl ps.length
    rw [List.take_length] at hci
    refine Evl.q_app hp' (ev_var rfl) (ev_c (v := .int 10)) (by rw [nV_len]; omega) fun H2 e2 => ?_
    refine Evl.s_ret (ev_var rfl) fun H3 e3 => k p H3 np ((Ex.mut (e.trans e2) np).trans e3) (e3 _ _ ?_)
    show _ = some (HO.lst (nV (Vatdfa.commas ps ++ [10])))
    rw [upd_same, nV_append]
    rfl
end
end Tx
end

section
set_option Elab.async false
set_option linter.all false
set_option maxRecDepth 100000
set_option maxHeartbeats 4000000
set_option exponentiation.threshold 100000
namespace Tx
open PySem PySem.Spec PyProof.Rows L2
open Evl (Ex Ev EvL EvU EvT EvA EvO RV ev_c ev_var ea_nil ea_cons eo_none eo_some)
open VatdfBase (Cell Table)
theorem cellText_len {c : Cell} (h : VatdfBase.isCell c = true) : (Vatdfa.cellText c).length ≤ 20 := by
  cases c with
  | empty => simp [Vatdfa.cellText]
  | num z =>
    have hz : -1000000 ≤ z ∧ z ≤ 1000000 := by
      have h' : (decide (-VatdfBase.NUMBER ≤ z) && decide (z ≤ VatdfBase.NUMBER)) = true := h
      rw [Bool.and_eq_true, decide_eq_true_eq, decide_eq_true_eq] at h'
      exact h'
    have hd : (Vatdfa.digits z.natAbs).length ≤ 8 := by
      rw [digits_is, List.length_reverse, List.length_cons]
      have := turned_len 7 (z.natAbs / 10) (by omega)
      omega
    show (Vatdfa.numText z).length ≤ 20
    unfold Vatdfa.numText
    split
    · rw [List.length_cons]; omega
    · omega
  | word u =>
    have hw := cell_word h
    rw [cellText_word]
    split
    · omega
    · have := dbl_len u
      rw [List.length_cons, List.length_append, List.length_singleton]
      omega
def rowText (r : TRow) : List Nat := Vatdfa.commas (r.map Vatdfa.cellText) ++ [10]
theorem rowText_len {t : Table} (hw : Wf t) {r : TRow} (hr : r ∈ t.rows) : (rowText r).length ≤ 200 := by
  unfold rowText
  have h1 := commas_len 20 (r.map Vatdfa.cellText) fun p hp => by
    obtain ⟨c, hc, rfl⟩ := List.mem_map.mp hp
    exact cellText_len (hw.rc r hr c hc)
  have h2 := hw.rl r hr
  have h3 := hw.n5
  rw [List.length_map] at h1
  have h4 : (20 + 1) * r.length ≤ 21 * 5 := Nat.mul_le_mul (Nat.le_refl _) (by omega)
  rw [List.length_append, List.length_singleton]
  omega
theorem flat_len {α β : Type} (f : α → List β) (k : Nat) : ∀ (l : List α), (∀ x ∈ l, (f x).length ≤ k) → (l.flatMap f).length ≤ l.length * k
  | [], _ => by simp
  | x :: l, h => by
    rw [List.flatMap_cons, List.length_append, List.length_cons, Nat.succ_mul]
    have h1 := flat_len f k l fun y hy => h y (List.mem_cons_of_mem _ hy)
    have h2 := h x List.mem_cons_self
    omega
theorem rows_flat_len {t : Table} (hw : Wf t) (i : Nat) : ((t.rows.take i).flatMap rowText).length ≤ 2400 := by
  have h1 := flat_len rowText 200 (t.rows.take i) fun r hr => rowText_len hw (List.mem_of_mem_take hr)
  have h2 := hw.r12
  have h3 : (t.rows.take i).length ≤ 12 := by rw [List.length_take]; omega
  have h4 : (t.rows.take i).length * 200 ≤ 12 * 200 := Nat.mul_le_mul h3 (Nat.le_refl _)
  omega
theorem names_text_len {t : Table} (hw : Wf t) : (Vatdfa.commas t.names).length ≤ 45 := by
  have h1 := commas_len 8 t.names fun p hp => name_len hw hp
  have h3 := hw.n5
  have h4 : (8 + 1) * t.names.length ≤ 9 * 5 := Nat.mul_le_mul (Nat.le_refl _) h3
  omega
theorem tableText_is (t : Table) : Vatdfa.tableText t = (Vatdfa.commas t.names ++ [10]) ++ t.rows.flatMap rowText := by
  unfold Vatdfa.tableText
  rw [List.append_assoc]
  rfl
theorem flatCell_len {c : Cell} (h : VatdfBase.isCell c = true) : (VatdfFlat.flatCell c).length ≤ 10 := by
  cases c with
  | empty => simp [VatdfFlat.flatCell]
  | num z => simp [VatdfFlat.flatCell]
  | word u =>
    have hw := cell_word h
    simp [VatdfFlat.flatCell, VatdfFlat.flatBytes, VatdfFlat.ints]
    omega
theorem flatRow_len {t : Table} (hw : Wf t) {r : TRow} (hr : r ∈ t.rows) (j : Nat) : ((r.take j).flatMap VatdfFlat.flatCell).length ≤ 50 := by
  have h1 := flat_len VatdfFlat.flatCell 10 (r.take j) fun c hc => flatCell_len (hw.rc r hr c (List.mem_of_mem_take hc))
  have h2 := hw.rl r hr
  have h3 := hw.n5
  have h4 : (r.take j).length * 10 ≤ 5 * 10 := Nat.mul_le_mul (by rw [List.length_take]; omega) (Nat.le_refl _)
  omega
def flatRow (r : TRow) : List Int := r.flatMap VatdfFlat.flatCell
theorem flatRows_len {t : Table} (hw : Wf t) (i : Nat) : ((t.rows.take i).flatMap flatRow).length ≤ 600 := by
  have h1 := flat_len flatRow 50 (t.rows.take i) fun r hr => by
    have := flatRow_len hw (List.mem_of_mem_take hr) r.length
    rw [List.take_length] at this
    exact this
  have h2 := hw.r12
  have h4 : (t.rows.take i).length * 50 ≤ 12 * 50 := Nat.mul_le_mul (by rw [List.length_take]; omega) (Nat.le_refl _)
  omega
theorem flatNames_len {t : Table} (hw : Wf t) (i : Nat) : ((t.names.take i).flatMap VatdfFlat.flatBytes).length ≤ 45 := by
  have h1 := flat_len VatdfFlat.flatBytes 9 (t.names.take i) fun n hn => by
    have := name_len hw (List.mem_of_mem_take hn)
    simp [VatdfFlat.flatBytes, VatdfFlat.ints]
    omega
  have h2 := hw.n5
  have h4 : (t.names.take i).length * 9 ≤ 5 * 9 := Nat.mul_le_mul (by rw [List.length_take]; omega) (Nat.le_refl _)
  omega
theorem flatTable_is (t : Table) : VatdfFlat.flatTable t = (((t.names.length : Int) :: t.names.flatMap VatdfFlat.flatBytes) ++ [(t.rows.length : Int)]) ++ t.rows.flatMap flatRow := by
  unfold VatdfFlat.flatTable
  rw [List.append_assoc]
  rfl
section
variable {P : Program} {w : World} {K : PySem.W.Frag} {mg : Str → Option Value} {base : Heap} {ad : Ads}
theorem fn_shown_table (T : Tops K mg ad) : Fn P w K mg base "shown_table" 5 ["table"] (spL (A1 fun (t : Table) v H => isTab K ad t v H ∧ Wf t) fun t => nV (Vatdfa.tableText t)) := by
  refine Fn.mk' T.f_shown_table sc_shown_table lN1 fun cdv f A outer s H E hr => ⟨_, (pss_cons (ps_set (i := 1) sc_shown_table.nd rfl (Or.inl rfl) (pe_fn (fn_shown_line T) (hr.mono (by decide)) (pa_cons (pe_lc (own := [("name", 3)]) (g := gName 3) (tt := tYes) rfl sc_shown_table.nd (pi_list (pe_fld (pv 0) rfl)) (blkOk_by (N := ["table", "out", "row", "name", "cell"]) (sc := defScope s_shown_table) (by decide +kernel)) (fun _ _ _ _ _ => pg_name (i := 3) sc_shown_table.nd rfl (Or.inl rfl)) (fun _ _ _ _ _ => pts_nil) (fun _ _ _ _ _ => (pe_callTy (call_list_ofK K rfl) (by rfl) T.b_list (by decide +kernel) (pa_cons (pv 3) pa_nil)))) pa_nil)))
      (pss_cons (ps_for PassesOwn.never rfl (pi_list (pe_fld (pv 0) rfl)) (pg_name (i := 2) sc_shown_table.nd rfl (Or.inl rfl)) (pss_one (ps_expr (pe_bm PySem.F.plainAttrs_list PySem.F.slot_list_extend PySem.F.type_list_extend mt_extend (pv 1) (pa_cons (pe_fn (fn_shown_line T) (hr.mono (by decide)) (pa_cons (pe_lc (own := [("cell", 4)]) (g := gName 4) (tt := tYes) rfl sc_shown_table.nd (pi_tup (pv 2)) (blkOk_by (N := ["table", "out", "row", "name", "cell"]) (sc := defScope s_shown_table) (by decide +kernel)) (fun _ _ _ _ _ => pg_name (i := 4) sc_shown_table.nd rfl (Or.inl rfl)) (fun _ _ _ _ _ => pts_nil) (fun _ _ _ _ _ => (pe_fn (fn_shown_cell T) (hr.mono (by decide)) (pa_cons (pv 4) pa_nil)))) pa_nil)) pa_nil)))))
      (pss_one (ps_ret (pv 1))))), ?_⟩
  rintro vs Q ⟨t, ⟨v, rfl, ⟨a, ln, lr, ns, rs, rfl, h⟩, hw⟩, k⟩
  have h12 := hw.r12
  have h5 := hw.n5
  obtain ⟨l, f1, f2, f3⟩ := dpAll_pairs h.nd
  have hl : l.length = t.names.length := by rw [← f2, List.length_map]
  have hnt := names_text_len hw
  refine Evl.q_asgL (evl_callLP t.names (eap_one (evp_F (evf_lcL l (·.1) (fun p => nV p.2) (src_L (ev_names T (ev_var rfl) h) (by rw [f1]; exact h.nl)) (by omega) (fun _ => rfl) ?_))) ?_) fun p H1 np e1 hp => ?_
  · rintro ⟨x, n⟩ hx H1 e
    obtain ⟨b, rfl, hb⟩ := dp_bD.mp (Dp.ex e (f3 _ hx))
    exact evl_listT (ev_var rfl) hb
  · rintro vs H1 e ⟨v, rfl, q, rfl, ys, hq, hy⟩
    refine ⟨_, rfl, h5, fun n hn => by have := name_len hw hn; omega, q, ys, rfl, hq, ?_⟩
    rw [← f2, List.map_map]
    exact hy
  · refine Evl.q_forLn (ev_rows T (ev_var rfl) (h.ex e1)) (h.ex e1).rl (fun i σ' H' => Ex H H' ∧ H' p = some (.lst (nV ((Vatdfa.commas t.names ++ [10]) ++ (t.rows.take i).flatMap rowText))) ∧ ∃ x2 x3 x4, σ' = [some (.ref a), some (.ref p), x2, x3, x4])
      (fun H2 e2 => ⟨e1.trans e2, by rw [List.take_zero, List.flatMap_nil, List.append_nil]; exact e2 _ _ hp, none, none, none, rfl⟩) (fun i σ' H' _ hh => (h.ex hh.1).rl) ?_ ?_
    · rintro i x σ' H' hx ⟨e, hp', x2, x3, x4, rfl⟩
      obtain ⟨d, hd1, hd2⟩ := DpAll.at (h.ex e).rd hx
      obtain ⟨r, hr, rfl⟩ := get_map hd1
      have hrm := List.mem_of_getElem? hr
      obtain ⟨b, xs, rfl, hb, hbd⟩ := dp_rD.mp hd2
      obtain ⟨l2, g1, g2, g3⟩ := dpAll_pairs hbd
      have hrl := hw.rl r hrm
      have hl2 : l2.length = r.length := by rw [← g2, List.length_map]
      have hrt := rowText_len hw hrm
      have hfl := rows_flat_len hw i
      refine s_ext hp' (ev_var rfl) (evl_P (evl_callLP (r.map Vatdfa.cellText) (eap_one (evp_F (evf_lcLT l2 (·.1) (fun p => nV (Vatdfa.cellText p.2)) (src_T (ev_var rfl) (by rw [g1]; exact hb)) (by omega) (fun _ => rfl) ?_))) ?_)) ?_ fun H2 e2 => ⟨Ex.mut (e.trans e2) np, ?_, _, _, _, rfl⟩
      · rintro ⟨xv, c⟩ hxc H2 e2
        have hc : c ∈ r := by rw [← g2]; exact List.mem_map.mpr ⟨_, hxc, rfl⟩
        exact evl_callL c (ea_cons (ev_var rfl) ea_nil) fun H3 e3 => ⟨_, rfl, hw.rc r hrm c hc, Dp.ex (e2.trans e3) (g3 _ hxc)⟩
      · rintro vs H2 e2 ⟨v, rfl, q, rfl, ys, hq, hy⟩
        refine ⟨_, rfl, by rw [List.length_map]; omega, fun n hn => ?_, q, ys, rfl, hq, ?_⟩
        · obtain ⟨c, hc, rfl⟩ := List.mem_map.mp hn
          have := cellText_len (hw.rc r hrm c hc)
          omega
        · rw [← g2, List.map_map, List.map_map]
          exact hy
      · rw [nV_len, nV_len, List.length_append, List.length_append, List.length_singleton]
        change _ + (rowText r).length ≤ _
        exact Evl.sz_of (by omega)
      · rw [upd_same, ← nV_append, take_succ_get hr, List.flatMap_append, List.append_assoc]
        congr 4
        simp [rowText]
    · rintro σ' H' ⟨e, hp', x2, x3, x4, rfl⟩
      rw [len_rows h, List.take_length, ← tableText_is] at hp'
      exact Evl.s_ret (ev_var rfl) fun H2 e2 => k p H2 np (e.trans e2) (e2 _ _ hp')
theorem fn_told_table (T : Tops K mg ad) : Fn P w K mg base "told_table" 3 ["table"] (spL (A1 fun (t : Table) v H => isTab K ad t v H ∧ Wf t) fun t => (VatdfFlat.flatTable t).map V.int) := by
  refine Fn.mk' T.f_told_table sc_told_table lN1 fun cdv f A outer s H E hr => ⟨_, (pss_cons (ps_set (i := 1) sc_told_table.nd rfl (Or.inl rfl) (pe_lst (pa_cons (pe_callB call_len_seq (by rfl) T.b_len PySem.boot_len (pa_cons (pe_fld (pv 0) rfl) pa_nil)) pa_nil)))
      (pss_cons (ps_for PassesOwn.never rfl (pi_list (pe_fld (pv 0) rfl)) (pg_name (i := 2) sc_told_table.nd rfl (Or.inl rfl)) (pss_one (ps_expr (pe_bm PySem.F.plainAttrs_list PySem.F.slot_list_extend PySem.F.type_list_extend mt_extend (pv 1) (pa_cons (pe_fn (fn_told_bytes T) (hr.mono (by decide)) (pa_cons (pv 2) pa_nil)) pa_nil)))))
      (pss_cons (ps_expr (pe_bm PySem.F.plainAttrs_list PySem.F.slot_list_append PySem.F.type_list_append mt_append (pv 1) (pa_cons (pe_callB call_len_seq (by rfl) T.b_len PySem.boot_len (pa_cons (pe_fld (pv 0) rfl) pa_nil)) pa_nil)))
      (pss_cons (ps_for PassesOwn.never rfl (pi_list (pe_fld (pv 0) rfl)) (pg_name (i := 3) sc_told_table.nd rfl (Or.inl rfl)) (pss_one (ps_for PassesOwn.never rfl (pi_tup (pv 3)) (pg_name (i := 4) sc_told_table.nd rfl (Or.inl rfl)) (pss_one (ps_expr (pe_bm PySem.F.plainAttrs_list PySem.F.slot_list_extend PySem.F.type_list_extend mt_extend (pv 1) (pa_cons (pe_fn (fn_told_cell T) (hr.mono (by decide)) (pa_cons (pv 4) pa_nil)) pa_nil)))))))
      (pss_one (ps_ret (pv 1))))))), ?_⟩
  rintro vs Q ⟨t, ⟨v, rfl, ⟨a, ln, lr, ns, rs, rfl, h⟩, hw⟩, k⟩
  have h12 := hw.r12
  have h5 := hw.n5
  refine Evl.q_asgL (Evl.el_lst (ea_cons (ev_int (ev_lenL (ev_names T (ev_var rfl) h) h.nl) (by rw [len_names h])) ea_nil) (by show 1 ≤ 100000; decide)) fun p H1 np e1 hp => ?_
  refine Evl.q_forLn (ev_names T (ev_var rfl) (h.ex e1)) (h.ex e1).nl (fun i σ' H' => Ex H H' ∧ H' p = some (.lst (((t.names.length : Int) :: (t.names.take i).flatMap VatdfFlat.flatBytes).map V.int)) ∧ ∃ x2 x3 x4, σ' = [some (.ref a), some (.ref p), x2, x3, x4])
    (fun H2 e2 => ⟨e1.trans e2, e2 _ _ hp, none, none, none, rfl⟩) (fun i σ' H' _ hh => (h.ex hh.1).nl) ?_ ?_
  · rintro i x σ' H' hx ⟨e, hp', x2, x3, x4, rfl⟩
    obtain ⟨d, hd1, hd2⟩ := DpAll.at (h.ex e).nd hx
    obtain ⟨n, hn, rfl⟩ := get_map hd1
    have hnm := List.mem_of_getElem? hn
    have hn8 := name_len hw hnm
    have hfl := flatNames_len hw i
    refine s_ext hp' (ev_var rfl) (evl_P (evl_callL n (ea_cons (ev_var rfl) ea_nil) fun H2 e2 => ⟨_, rfl, by omega, isB_dp.mpr (Dp.ex e2 hd2)⟩)) ?_ fun H2 e2 => ⟨Ex.mut (e.trans e2) np, ?_, _, _, _, rfl⟩
    · rw [List.length_map, List.length_cons, List.length_map]
      have : (VatdfFlat.flatBytes n).length ≤ 9 := by simp [VatdfFlat.flatBytes, VatdfFlat.ints]; omega
      exact Evl.sz_of (by omega)
    · rw [upd_same, ← List.map_append, take_succ_get hn, List.flatMap_append]
      simp
  · rintro σ' H' ⟨e, hp', x2, x3, x4, rfl⟩
    rw [len_names h, List.take_length] at hp'
    have hfn := flatNames_len hw t.names.length
    rw [List.take_length] at hfn
    refine Evl.q_app hp' (ev_var rfl) (ev_int (ev_lenL (ev_rows T (ev_var rfl) (h.ex e)) (h.ex e).rl) (by rw [len_rows h])) (by rw [List.length_map, List.length_cons]; omega) fun H2 e2 => ?_
    have ex2 := Ex.mut (o := .lst (((t.names.length : Int) :: t.names.flatMap VatdfFlat.flatBytes).map V.int ++ [.int (t.rows.length : Nat)])) (e.trans e2) np
    refine Evl.q_forLn (ev_rows T (ev_var rfl) (h.ex ex2)) (h.ex ex2).rl (fun i σ' H' => Ex H H' ∧ H' p = some (.lst (((((t.names.length : Int) :: t.names.flatMap VatdfFlat.flatBytes) ++ [(t.rows.length : Int)]) ++ (t.rows.take i).flatMap flatRow).map V.int)) ∧ ∃ x2 x3 x4, σ' = [some (.ref a), some (.ref p), x2, x3, x4])
      (fun H3 e3 => ⟨ex2.trans e3, (e3 _ _ upd_same).trans (by simp), _, _, _, rfl⟩) (fun i σ' H' _ hh => (h.ex hh.1).rl) ?_ ?_
    · rintro i x σ' H' hx ⟨e, hp', x2, x3, x4, rfl⟩
      obtain ⟨d, hd1, hd2⟩ := DpAll.at (h.ex e).rd hx
      obtain ⟨r, hr, rfl⟩ := get_map hd1
      have hrm := List.mem_of_getElem? hr
      obtain ⟨b, xs, rfl, hb, hbd⟩ := dp_rD.mp hd2
      have hxl : xs.length = r.length := by have := DpAll.len hbd; rwa [List.length_map] at this
      have hfr := flatRows_len hw i
      refine Evl.s_forT (ev_var rfl) hb (fun j σ' H' => (Ex H H' ∧ SqT K H' b xs ∧ DpAll K H' xs (r.map cD)) ∧ H' p = some (.lst (((((t.names.length : Int) :: t.names.flatMap VatdfFlat.flatBytes) ++ [(t.rows.length : Int)]) ++ ((t.rows.take i).flatMap flatRow ++ (r.take j).flatMap VatdfFlat.flatCell)).map V.int)) ∧ ∃ x3 x4, σ' = [some (.ref a), some (.ref p), x3, some (.ref b), x4])
        (fun H3 e3 => ⟨⟨e.trans e3, SqT.ex e3 hb, DpAll.ex e3 hbd⟩, by rw [List.take_zero, List.flatMap_nil, List.append_nil]; exact e3 _ _ hp', _, _, rfl⟩) (fun j σ' H' _ hh => hh.1.2.1) ?_ ?_
      · rintro j y σ' H' hy ⟨⟨e, hb, hbd⟩, hp', x3, x4, rfl⟩
        obtain ⟨d, hd1, hd2⟩ := DpAll.at hbd hy
        obtain ⟨c, hc, rfl⟩ := get_map hd1
        have hcm := hw.rc r hrm c (List.mem_of_getElem? hc)
        have hfj := flatRow_len hw hrm j
        have hcl := flatCell_len hcm
        refine s_ext hp' (ev_var rfl) (evl_P (evl_callL c (ea_cons (ev_var rfl) ea_nil) fun H2 e2 => ⟨_, rfl, hcm, Dp.ex e2 hd2⟩)) ?_ fun H2 e2 => ⟨⟨Ex.mut (e.trans e2) np, sqT_upd (e2 _ _ hp') (SqT.ex e2 hb), stabAll (stab_map stab_cD _) (e2 _ _ hp') (DpAll.ex e2 hbd)⟩, ?_, _, _, rfl⟩
        · rw [List.length_map, List.length_map, List.length_append, List.length_append, List.length_append, List.length_cons, List.length_singleton]
          exact Evl.sz_of (by omega)
        · rw [upd_same, ← List.map_append, take_succ_get hc, List.flatMap_append]
          simp
      · rintro σ' H' ⟨⟨e, hb, hbd⟩, hp', x3, x4, rfl⟩
        refine ⟨e, ?_, _, _, _, rfl⟩
        rw [hp', hxl, List.take_length, take_succ_get hr, List.flatMap_append]
        simp [flatRow]
    · rintro σ' H' ⟨e, hp', x2, x3, x4, rfl⟩
      rw [len_rows h, List.take_length, ← flatTable_is] at hp'
      exact Evl.s_ret (ev_var rfl) fun H2 e2 => k p H2 np (e.trans e2) (e2 _ _ hp')
end
end Tx
end

section
set_option Elab.async false
set_option linter.all false
set_option maxRecDepth 100000
set_option maxHeartbeats 4000000
set_option exponentiation.threshold 100000
namespace Tx
open PySem PySem.Spec PyProof.Rows L2
open Evl (Ex Ev EvL EvU EvT EvA EvO RV ev_c ev_var ea_nil ea_cons eo_none eo_some)
open VatdfBase (Cell Table)
/-! ### what keeps lists and tuples keeps data -/
def isSq : HO → Bool
  | .lst _ => true
  | .tup _ => true
  | .frz _ _ => true
  | _ => false
def ExS (H H' : Hp) : Prop := ∀ b o, isSq o = true → H b = some o → H' b = some o
def ExB (a : Addr) (H H' : Hp) : Prop := ∀ b o, H b = some o → b ≠ a → H' b = some o
theorem ExB.refl {a : Addr} {H : Hp} : ExB a H H := fun _ _ h _ => h
theorem ExB.trans {a : Addr} {H H1 H2 : Hp} (e1 : ExB a H H1) (e2 : ExB a H1 H2) : ExB a H H2 := fun b o h n => e2 b o (e1 b o h n) n
theorem ExB.of {a : Addr} {H H' : Hp} (e : Ex H H') : ExB a H H' := fun b o h _ => e b o h
theorem ExB.s {a C dx : Addr} {H H' : Hp} {fs : List (Str × V)} (e : ExB a H H') (h : H a = some (.ins C dx fs)) : ExS H H' := fun b o hs hb => e b o hb fun q => by
  rw [q, h] at hb
  cases hb
  cases hs
/-- a new object (not a's) changes -/
theorem ExB.mut {a p : Addr} {H H' : Hp} {o : HO} (e : ExB a H H') (h : H p = none) : ExB a H (upd H' p o) := fun b u hb n => by
  rw [upd_ne (ne_of_none hb h)]
  exact e b u hb n
section
variable {K : PySem.W.Frag} {H H' : Hp}
theorem sqL_exs {a : Addr} {xs : List V} (e : ExS H H') (h : SqL K H a xs) : SqL K H' a xs := by
  rcases h with (h | ⟨o, h⟩) | h
  · exact .inl (.inl (e _ _ rfl h))
  · exact .inl (.inr ⟨o, e _ _ rfl h⟩)
  · exact .inr h
theorem sqT_exs {a : Addr} {xs : List V} (e : ExS H H') (h : SqT K H a xs) : SqT K H' a xs := by
  rcases h with (h | ⟨o, h⟩) | h
  · exact .inl (.inl (e _ _ rfl h))
  · exact .inl (.inr ⟨o, e _ _ rfl h⟩)
  · exact .inr h
mutual
theorem dp_exs (e : ExS H H') : ∀ (d : PyData) (v : V), Dp K H v d → Dp K H' v d
  | .none, _, h => by cases h; exact .non
  | .bool _, _, h => by cases h; exact .bl _
  | .int _, _, h => by cases h; exact .int _
  | .str _, _, h => by cases h; exact .str _
  | .list ds, _, h => by
    cases h with
    | lst h1 h2 => exact .lst (sqL_exs e h1) (dpAll_exs e ds _ h2)
  | .tuple ds, _, h => by
    cases h with
    | tup h1 h2 => exact .tup (sqT_exs e h1) (dpAll_exs e ds _ h2)
  | .dict _, _, h => by cases h
theorem dpAll_exs (e : ExS H H') : ∀ (ds : List PyData) (vs : List V), DpAll K H vs ds → DpAll K H' vs ds
  | [], _, h => by cases h; exact .nil
  | d :: ds, _, h => by
    cases h with
    | cons h1 h2 => exact .cons (dp_exs e d _ h1) (dpAll_exs e ds _ h2)
end
end
/-! ### the taker -/
def takF (nl : Addr) (s : TkS) : List (Str × V) := [("numbers", .ref nl), ("at", .int (s.1 : Nat)), ("good", .bl s.2)]
theorem tak_numbers {nl : Addr} {s : TkS} : (takF nl s).lookup ("numbers" : Str) = some (.ref nl) := lk_here
theorem tak_at {nl : Addr} {s : TkS} : (takF nl s).lookup ("at" : Str) = some (.int (s.1 : Nat)) := (lk_past (by decide +kernel)).trans lk_here
theorem tak_good {nl : Addr} {s : TkS} : (takF nl s).lookup ("good" : Str) = some (.bl s.2) := (lk_past (by decide +kernel)).trans ((lk_past (by decide +kernel)).trans lk_here)
theorem tak_none {nl : Addr} {s : TkS} {m : Str} (h : ((m == ("numbers" : Str)) || ((m == ("at" : Str)) || (m == ("good" : Str)))) = false) : (takF nl s).lookup m = none := by
  rw [Bool.or_eq_false_iff, Bool.or_eq_false_iff] at h
  exact (lk_past h.1).trans ((lk_past h.2.1).trans ((lk_past h.2.2).trans rfl))
theorem tak_put_at {nl : Addr} {s : TkS} {n : Nat} : putF "at" (.int (n : Nat)) (takF nl s) = takF nl (n, s.2) := (put_past (by decide +kernel)).trans (congrArg _ put_here)
theorem tak_put_good {nl : Addr} {s : TkS} {b : Bool} : putF "good" (.bl b) (takF nl s) = takF nl (s.1, b) := (put_past (by decide +kernel)).trans (congrArg _ ((put_past (by decide +kernel)).trans (congrArg _ put_here)))
def takA : List V → List (Str × V)
  | [x] => [("numbers", x), ("at", .int 0), ("good", .bl true)]
  | _ => []
def TakI (ad : Ads) (H : Hp) (a nl : Addr) (s : TkS) : Prop := ∃ dx, H a = some (.ins ad.Taker dx (takF nl s))
theorem TakI.ex {ad : Ads} {H H' : Hp} {a nl : Addr} {s : TkS} (e : Ex H H') (h : TakI ad H a nl s) : TakI ad H' a nl s := by
  obtain ⟨dx, h⟩ := h
  exact ⟨dx, e _ _ h⟩
theorem TakI.s {ad : Ads} {H H' : Hp} {a nl : Addr} {s : TkS} (h : TakI ad H a nl s) (e : ExB a H H') : ExS H H' := by
  obtain ⟨dx, h⟩ := h
  exact e.s h
/-- another list changes -/
theorem TakI.upd {ad : Ads} {H : Hp} {a nl p : Addr} {s : TkS} {xs ys : List V} (h : TakI ad H a nl s) (hp : H p = some (.lst xs)) : TakI ad (upd H p (.lst ys)) a nl s := by
  obtain ⟨dx, h⟩ := h
  exact ⟨dx, by rw [upd_ne (ne_of h hp (by intro z; cases z))]; exact h⟩
/-- a method: its arguments, what it gives, the taker behind it -/
def spTk {α β : Type} (K : PySem.W.Frag) (ad : Ads) (args : α → List V) (pre : α → Prop) (f : α → List Int → TkS → β × TkS) (post : β → V → Hp → Prop) : Sp := fun vs H Q _ => ∃ (x : α) (a nl : Addr) (l : List Int) (s : TkS),
  vs = .ref a :: args x ∧ pre x ∧ TakI ad H a nl s ∧ SqL K H nl (l.map V.int) ∧ l.length ≤ 1000 ∧ ∀ v H', ExB a H H' → TakI ad H' a nl (f x l s).2 → post (f x l s).1 v H' → Q v H'
theorem lTk {α β : Type} {K : PySem.W.Frag} {ad : Ads} {args : α → List V} {pre : α → Prop} {f : α → List Int → TkS → β × TkS} {post : β → V → Hp → Prop} {n : Nat} (h : ∀ x, (args x).length = n) : ∀ vs H Q E, spTk K ad args pre f post vs H Q E → vs.length = n + 1 := fun _ _ _ _ ⟨x, _, _, _, _, e, _⟩ => by rw [e, List.length_cons, h x]
section
variable {α β : Type} {K : PySem.W.Frag} {ad : Ads} {args : α → List V} {pre : α → Prop} {f : α → List Int → TkS → β × TkS} {post : β → V → Hp → Prop} {σ : L2.St} {H : Hp} {te : TE} {ta : TA} {a nl : Addr} {l : List Int} {s : TkS} {m : Str} {Q : VK} {E : XK}
theorem t_me (x : α) (h : Ev te σ H (.ref a)) (ht : TakI ad H a nl s) (hl : SqL K H nl (l.map V.int)) (hz : l.length ≤ 1000) (hA : EvA ta σ H (args x)) (hp : pre x)
    (k : ∀ v H', ExB a H H' → TakI ad H' a nl (f x l s).2 → post (f x l s).1 v H' → Q v H') (hm : ((m == ("numbers" : Str)) || ((m == ("at" : Str)) || (m == ("good" : Str)))) = false := by decide +kernel) : tMeth ad.Taker m (spTk K ad args pre f post) [] E te ta σ H Q := by
  obtain ⟨dx, hd⟩ := ht
  exact h H (Ex.refl H) _ fun H1 e1 => ⟨a, dx, _, rfl, e1 _ _ hd, tak_none hm, hA H1 e1 _ fun H2 e2 => ⟨x, a, nl, l, s, by rw [List.append_nil], hp, ⟨dx, (e1.trans e2) _ _ hd⟩, SqL.ex (e1.trans e2) hl, hz, fun v H' e t p => k v H' ((ExB.of (e1.trans e2)).trans e) t p⟩⟩
end
theorem jat_iat (l : List Int) (k : Nat) : jat l k = iat l k := rfl
section
variable {P : Program} {w : World} {K : PySem.W.Frag} {mg : Str → Option Value} {base : Heap} {ad : Ads}
theorem in_Taker (T : Tops K mg ad) : Ini P w K mg base "Taker" ad.Taker 1 ["self", "numbers"] (spIni ad.Taker 1 takA) := by
  refine Ini.mk' T.i_Taker sc_Taker_init lIni fun cdv f A outer s H E hr => ⟨_, (pss_cons (ps_fld (pv 0) (pv 1) rfl)
      (pss_cons (ps_fld (pv 0) pe_int rfl)
      (pss_one (ps_fld (pv 0) pe_bl rfl)))), ?_⟩
  rintro vs Q ⟨p, dx, args, rfl, hl, hp, k⟩
  match args, hl with
  | [x], _ =>
    refine ⟨_, rfl, _, rfl, p, ad.Taker, dx, [], rfl, hp, T.k_Taker, T.a_Taker_numbers, (by show 0 < 1000; decide), ?_⟩
    refine ⟨_, rfl, p, ad.Taker, dx, _, rfl, upd_same, T.k_Taker, T.a_Taker_at, (by show 1 < 1000; decide), ?_⟩
    refine ⟨_, rfl, p, ad.Taker, dx, _, rfl, upd_same, T.k_Taker, T.a_Taker_good, (by show 2 < 1000; decide), ?_⟩
    refine k _ (upd_same.trans ?_) fun b o e hb => by rw [upd_ne hb, upd_ne hb, upd_ne hb]; exact e
    rw [put_nil, put_past (by decide +kernel), put_nil, put_past (by decide +kernel), put_past (by decide +kernel), put_nil]
    rfl
theorem me_Taker_number (T : Tops K mg ad) : Me P w K mg base ad.Taker "number" 1 ["self", "least", "most"] (spTk K ad (fun (x : Int × Int) => [.int x.1, .int x.2]) (fun _ => True) (fun x l s => tNum l x.1 x.2 s) (fun z v _ => v = .int z)) := by
  refine Me.mk' T.m_Taker_number sc_Taker_number (lTk fun _ => rfl) fun cdv f A outer s H E hr => ⟨_, (pss_cons (ps_if (PW.pt (pw_and (pt_val (pe_fld (pv 0) rfl)) (pw_and1 (pt_cmpR op_lt (pe_fld (pv 0) rfl) (pe_callB call_len_seq (by rfl) T.b_len PySem.boot_len (pa_cons (pe_fld (pv 0) rfl) pa_nil)) (nomark _))))) (pss_cons (ps_set (i := 3) sc_Taker_number.nd rfl (Or.inl rfl) (pe_ix ix_list (pe_fld (pv 0) rfl) (pe_fld (pv 0) rfl) (fun _ _ => rfl)))
      (pss_one (ps_if (pt_chain op_le op_le (pv 1) (pv 3) (pv 2)) (pss_cons (ps_fldaug (pv 0) pe_int in_add)
      (pss_one (ps_ret (pv 3)))) pss_nil))) pss_nil)
      (pss_cons (ps_fld (pv 0) pe_bl rfl)
      (pss_one (ps_ret (pv 1))))), ?_⟩
  rintro vs Q ⟨⟨x, y⟩, a, nl, l, s, rfl, _, ht, hl, hz, k⟩
  change ∀ v H', ExB a H H' → TakI ad H' a nl (tNum l x y s).2 → v = .int (tNum l x y s).1 → Q v H' at k
  obtain ⟨dx, hd⟩ := ht
  obtain ⟨p, good⟩ := s
  have fld : ∀ (σ' : L2.St) (H' : Hp) (f : Str) (v : V), Ex H H' → σ'[0]? = some (some (.ref a)) → NoAttr K ad.Taker f → (takF nl (p, good)).lookup f = some v → Ev (tFld K (tVar 0) f) σ' H' v := fun σ' H' f v e hσ hn hl => ev_fld (ev_var hσ) (e _ _ hd) T.k_Taker hn hl
  -- not good any more
  have bad : ∀ (σ' : L2.St) (H' : Hp), Ex H H' → σ'[0]? = some (some (.ref a)) → σ'[1]? = some (some (.int x)) → tNum l x y (p, good) = (x, (p, false)) → tSeq (sFld K (tVar 0) (tC (.bl false)) "good") (tRet (tVar 1)) { nx := fun _ H' => Q .non H', rt := Q } σ' H' := by
    intro σ' H' e h0 h1 hn
    refine ⟨_, h0, a, ad.Taker, dx, _, rfl, e _ _ hd, T.k_Taker, T.a_Taker_good, (by show 3 < 1000; decide), ?_⟩
    refine Evl.s_ret (ev_var h1) fun H3 e3 => k _ H3 (fun b o hb n => e3 _ _ (by rw [upd_ne n]; exact e _ _ hb)) ⟨dx, e3 _ _ ?_⟩ ?_
    · rw [upd_same, hn, tak_put_good]
    · rw [hn]
  have hat : ∀ σ' H', Ex H H' → σ'[0]? = some (some (.ref a)) → Ev (tFld K (tVar 0) "at") σ' H' (.int (p : Nat)) := fun σ' H' e h => fld σ' H' _ _ e h T.a_Taker_at tak_at
  have hnum : ∀ σ' H', Ex H H' → σ'[0]? = some (some (.ref a)) → Ev (tFld K (tVar 0) "numbers") σ' H' (.ref nl) := fun σ' H' e h => fld σ' H' _ _ e h T.a_Taker_numbers tak_numbers
  refine Evl.q_when (Evl.et_and (et_val (fld _ _ _ _ (Ex.refl H) rfl T.a_Taker_good tak_good)) fun _ => Evl.et_test (ev_I0 (hat _ _ (Ex.refl H) rfl) (ev_lenL (hnum _ _ (Ex.refl H) rfl) hl))) (fun hb H1 e1 => ?_) fun hb H1 e1 => ?_
  · rw [List.length_map] at hb
    rw [Bool.and_eq_true, decide_eq_true_eq] at hb
    obtain ⟨hg, hlt⟩ := hb
    change good = true at hg
    subst hg
    have hp : p < l.length := by omega
    refine Evl.q_asg (ev_ixL (hnum _ _ e1 rfl) (hat _ _ e1 rfl) (SqL.ex e1 hl) (atI_nat (int_get hp))) fun H2 e2 => ?_
    refine Evl.s_when (Evl.et_test (ev_leLe (ev_var rfl) (ev_var rfl) (ev_var rfl))) (fun hc H3 e3 => ?_) fun hc H3 e3 => ?_
    · rw [Bool.and_eq_true, decide_eq_true_eq, decide_eq_true_eq] at hc
      have hn : tNum l x y (p, true) = (iat l p, (p + 1, true)) := by
        unfold tNum
        rw [if_pos ⟨rfl, hp, hc.1, hc.2⟩]
        rfl
      have e123 := (e1.trans e2).trans e3
      refine ⟨_, rfl, a, ad.Taker, dx, _, _, rfl, e123 _ _ hd, T.k_Taker, T.a_Taker_at, tak_at, _, _, rfl, rfl, dx, _, e123 _ _ hd, (by show 3 < 1000; decide), ?_⟩
      refine Evl.s_ret (ev_var rfl) fun H4 e4 => k _ H4 (fun b o hb n => e4 _ _ (by rw [upd_ne n]; exact e123 _ _ hb)) ⟨dx, e4 _ _ ?_⟩ ?_
      · rw [upd_same, hn]
        congr 2
      · rw [hn]
    · refine bad _ H3 ((e1.trans e2).trans e3) rfl rfl ?_
      unfold tNum
      refine if_neg ?_
      rintro ⟨_, _, q1, q2⟩
      have h1 : x ≤ iat l p := q1
      have h2 : iat l p ≤ y := q2
      rw [decide_eq_true h1, decide_eq_true h2] at hc
      cases hc
  · refine bad _ H1 e1 rfl rfl ?_
    unfold tNum
    refine if_neg ?_
    rintro ⟨q1, q2, _, _⟩
    have h1 : good = true := q1
    have h2 : p < l.length := q2
    rw [List.length_map, h1, decide_eq_true (by omega)] at hb
    cases hb
end
end Tx
end

section
set_option Elab.async false
set_option linter.all false
set_option maxRecDepth 100000
set_option maxHeartbeats 4000000
set_option exponentiation.threshold 100000
namespace Tx
open PySem PySem.Spec PyProof.Rows L2
open Evl (Ex Ev EvL EvU EvT EvA EvO RV ev_c ev_var ea_nil ea_cons eo_none eo_some)
open VatdfBase (Cell Table)
section
variable {K : PySem.W.Frag} {σ : L2.St} {H : Hp} {te : TE}
theorem evu_tupleV {p : Addr} {ys : List V} (ha : Ev te σ H (.ref p)) (h : SqL K H p ys) :
    EvU (tCB (fun xs H Q => ∃ p ys, xs = [.ref p] ∧ ((SqL K H p ys ∧ ∀ l, H l = none → Q (.ref l) (upd H l (.tup ys))) ∨ (SqT K H p ys ∧ Q (.ref p) H))) (tCons te tNil)) σ H ys := fun H1 e Q q =>
  ha H1 e _ fun H2 e2 => ⟨p, ys, rfl, .inl ⟨SqL.ex (e.trans e2) h, fun l hl => q l _ (Evl.fresh_back e2 hl) (e2.trans (Ex.new hl)) upd_same⟩⟩
end
/-- headings: the list is new -/
def spTkH (K : PySem.W.Frag) (ad : Ads) : Sp := fun vs H Q _ => ∃ (a nl : Addr) (l : List Int) (s : TkS), vs = [.ref a] ∧ TakI ad H a nl s ∧ SqL K H nl (l.map V.int) ∧ l.length ≤ 1000 ∧ ∀ q H', H q = none → ExB a H H' → TakI ad H' a nl (tHead l s).2 → Dp K H' (.ref q) (.list ((tHead l s).1.map bD)) → Q (.ref q) H'
theorem lTkH {K : PySem.W.Frag} {ad : Ads} : ∀ vs H Q E, spTkH K ad vs H Q E → vs.length = 1 := fun _ _ _ _ ⟨_, _, _, _, e, _⟩ => by rw [e]; rfl
theorem t_meH {K : PySem.W.Frag} {ad : Ads} {σ : L2.St} {H : Hp} {te : TE} {a nl : Addr} {l : List Int} {s : TkS} {m : Str} {Q : VK} {E : XK} (h : Ev te σ H (.ref a)) (ht : TakI ad H a nl s) (hl : SqL K H nl (l.map V.int)) (hz : l.length ≤ 1000)
    (k : ∀ q H', H q = none → ExB a H H' → TakI ad H' a nl (tHead l s).2 → Dp K H' (.ref q) (.list ((tHead l s).1.map bD)) → Q (.ref q) H') (hm : ((m == ("numbers" : Str)) || ((m == ("at" : Str)) || (m == ("good" : Str)))) = false := by decide +kernel) : tMeth ad.Taker m (spTkH K ad) [] E te tNil σ H Q := by
  obtain ⟨dx, hd⟩ := ht
  exact h H (Ex.refl H) _ fun H1 e1 => ⟨a, dx, _, rfl, e1 _ _ hd, tak_none hm, a, nl, l, s, rfl, ⟨dx, e1 _ _ hd⟩, SqL.ex e1 hl, hz, fun q H' n e t p => k q H' (Evl.fresh_back e1 n) ((ExB.of e1).trans e) t p⟩
theorem rep_succ {A S : Type} (f : S → A × S) (n : Nat) (s : S) : tRep f (n + 1) s = ((tRep f n s).1 ++ [(f (tRep f n s).2).1], (f (tRep f n s).2).2) := rfl
section
variable {P : Program} {w : World} {K : PySem.W.Frag} {mg : Str → Option Value} {base : Heap} {ad : Ads}
theorem me_Taker_word (T : Tops K mg ad) : Me P w K mg base ad.Taker "word" 2 ["self"] (spTk K ad (fun (_ : Unit) => []) (fun _ => True) (fun _ l s => tWord l s) (fun u v H => isB K u v H)) := by
  refine Me.mk' T.m_Taker_word sc_Taker_word (lTk fun _ => rfl) fun cdv f A outer s H E hr => ⟨_, (pss_cons (ps_set (i := 1) sc_Taker_word.nd rfl (Or.inl rfl) (pe_me (me_Taker_number T) T.k_Taker (hr.mono (by decide)) (pv 0) (pa_cons pe_int (pa_cons pe_int pa_nil))))
      (pss_cons (ps_set (i := 2) sc_Taker_word.nd rfl (Or.inl rfl) (pe_lst pa_nil))
      (pss_cons (ps_for PassesOwn.never rfl (pi_range1 rfl T.b_range (pa_cons (pv 1) pa_nil)) (pg_name (i := 3) sc_Taker_word.nd rfl (Or.inl rfl)) (pss_one (ps_expr (pe_bm PySem.F.plainAttrs_list PySem.F.slot_list_append PySem.F.type_list_append mt_append (pv 2) (pa_cons (pe_me (me_Taker_number T) T.k_Taker (hr.mono (by decide)) (pv 0) (pa_cons pe_int (pa_cons pe_int pa_nil))) pa_nil)))))
      (pss_one (ps_ret (pe_callTy call_tuple_of (by rfl) T.b_tuple (by decide +kernel) (pa_cons (pv 2) pa_nil))))))), ?_⟩
  rintro vs Q ⟨_, a, nl, l, s, rfl, _, ht, hl, hz, k⟩
  change ∀ v H', ExB a H H' → TakI ad H' a nl (tWord l s).2 → isB K (tWord l s).1 v H' → Q v H' at k
  refine t_me (1, 8) (ev_var rfl) ht hl hz (ea_cons ev_c (ea_cons ev_c ea_nil)) trivial fun v H1 e1 t1 hv => ?_
  have hm := tNat_int l (a := 1) (b := 8) (by decide) s
  have hr := tNat_range l (a := 1) (b := 8) (by decide) s
  have hv' : v = .int ((tNat l 1 8 s).1 : Nat) := by rw [hm]; exact hv
  subst hv'
  have t1' : TakI ad H1 a nl (tNat l 1 8 s).2 := t1
  have hl1 := sqL_exs (ht.s e1) hl
  refine Evl.q_asgL (Evl.el_lst ea_nil (Nat.zero_le _)) fun p H2 np e2 hp => ?_
  obtain ⟨m, hmm⟩ : ∃ m, m = (tNat l 1 8 s).1 := ⟨_, rfl⟩
  obtain ⟨s1, hs1⟩ : ∃ s1, s1 = (tNat l 1 8 s).2 := ⟨_, rfl⟩
  have hW : tWord l s = tRep (tByte l) m s1 := by rw [hmm, hs1]; rfl
  rw [← hmm] at hr ⊢
  rw [← hs1] at t1'
  rw [hW] at k
  refine Evl.q_forR1 (n := (m : Nat)) (ea_cons (ev_var rfl) ea_nil) (by omega)
    (fun i σ' H' => (ExB a H1 H' ∧ TakI ad H' a nl (tRep (tByte l) i s1).2) ∧ H' p = some (.lst (nV (tRep (tByte l) i s1).1)) ∧ ∃ x, σ' = [some (.ref a), some (.int (m : Nat)), some (.ref p), x])
    (fun H3 e3 => ⟨⟨ExB.of (e2.trans e3), t1'.ex (e2.trans e3)⟩, e3 _ _ hp, none, rfl⟩) ?_ ?_
  · rintro i σ' H' hi ⟨⟨e, t⟩, hp', x, rfl⟩
    have hlen := tRep_len (tByte l) i s1
    refine ⟨_, rfl, Or.inl ⟨rfl, _, SqL.of hp'⟩, ?_⟩
    refine t_me (32, 126) (ev_var rfl) t (sqL_exs (t1.s e) hl1) hz (ea_cons ev_c (ea_cons ev_c ea_nil)) trivial fun v H4 e4 t4 hv4 => ?_
    have hb := tNat_int l (a := 32) (b := 126) (by decide) (tRep (tByte l) i s1).2
    have hv4' : v = .int ((tByte l (tRep (tByte l) i s1).2).1 : Nat) := by
      show v = .int ((tNat l 32 126 (tRep (tByte l) i s1).2).1 : Nat)
      rw [hb]
      exact hv4
    have hpa : p ≠ a := fun z => by
      obtain ⟨dx, hd⟩ := t1'
      rw [z, hd] at np
      cases np
    have hp4 := e4 _ _ hp' hpa
    refine ⟨p, _, v, rfl, rfl, hp4, (by rw [nV_len, hlen]; exact Evl.sz_lt (by omega)), ⟨?_, ?_⟩, ?_, _, rfl⟩
    · exact (e.trans e4).mut np
    · exact TakI.upd t4 hp4
    · rw [upd_same, rep_succ, hv4', nV_append]
      rfl
  · rintro σ' H' ⟨⟨e, t⟩, hp', x, rfl⟩
    rw [Int.toNat_natCast] at t hp'
    exact Evl.s_retU (evu_tupleV (ev_var rfl) (SqL.of hp')) fun q H4 nq e4 hq => k _ H4 ((e1.trans e).trans (ExB.of e4)) (t.ex e4) ⟨q, rfl, SqT.of hq⟩
theorem me_Taker_cell (T : Tops K mg ad) : Me P w K mg base ad.Taker "cell" 3 ["self"] (spTk K ad (fun (_ : Unit) => []) (fun _ => True) (fun _ l s => tCell l s) (fun c v H => Dp K H v (cD c))) := by
  refine Me.mk' T.m_Taker_cell sc_Taker_cell (lTk fun _ => rfl) fun cdv f A outer s H E hr => ⟨_, (pss_cons (ps_set (i := 1) sc_Taker_cell.nd rfl (Or.inl rfl) (pe_me (me_Taker_number T) T.k_Taker (hr.mono (by decide)) (pv 0) (pa_cons pe_int (pa_cons pe_int pa_nil))))
      (pss_cons (ps_if (pt_cmpR op_eq (pv 1) pe_int (nomark _)) (pss_one (ps_ret (pe_gr T.c_EMPTY))) pss_nil)
      (pss_cons (ps_if (pt_cmpR op_eq (pv 1) pe_int (nomark _)) (pss_one (ps_ret (pe_fn (fn_number_cell T) (hr.mono (by decide)) (pa_cons (pe_me (me_Taker_number T) T.k_Taker (hr.mono (by decide)) (pv 0) (pa_cons (pe_un un_neg (pe_gi T.c_LIMIT)) (pa_cons (pe_gi T.c_LIMIT) pa_nil))) pa_nil)))) pss_nil)
      (pss_one (ps_ret (pe_fn (fn_word_cell T) (hr.mono (by decide)) (pa_cons (pe_me0 (me_Taker_word T) T.k_Taker (hr.mono (by decide)) (pv 0)) pa_nil))))))), ?_⟩
  rintro vs Q ⟨_, a, nl, l, s, rfl, _, ht, hl, hz, k⟩
  change ∀ v H', ExB a H H' → TakI ad H' a nl (tCell l s).2 → Dp K H' v (cD (tCell l s).1) → Q v H' at k
  refine t_me (0, 2) (ev_var rfl) ht hl hz (ea_cons ev_c (ea_cons ev_c ea_nil)) trivial fun v H1 e1 t1 hv => ?_
  have hm := tNat_int l (a := 0) (b := 2) (by decide) s
  have hr := tNat_range l (a := 0) (b := 2) (by decide) s
  have hv' : v = .int ((tNat l 0 2 s).1 : Nat) := by rw [hm]; exact hv
  subst hv'
  have t1' : TakI ad H1 a nl (tNat l 0 2 s).2 := t1
  have hl1 := sqL_exs (ht.s e1) hl
  refine Evl.q_when (Evl.et_test (ev_eqI (ev_var rfl) ev_c)) (fun hb H2 e2 => ?_) fun hb H2 e2 => ?_
  · rw [decide_eq_true_eq] at hb
    have h0 : (tNat l 0 2 s).1 = 0 := by omega
    have hT : tCell l s = (.empty, (tNat l 0 2 s).2) := by unfold tCell; rw [if_pos h0]
    rw [hT] at k
    exact Evl.s_ret ev_c fun H3 e3 => k _ H3 (e1.trans (ExB.of (e2.trans e3))) (t1'.ex (e2.trans e3)) (dEMPTY T H3)
  · rw [decide_eq_false_iff_not] at hb
    have h0 : ¬ (tNat l 0 2 s).1 = 0 := by omega
    refine Evl.q_when (Evl.et_test (ev_eqI (ev_var rfl) ev_c)) (fun hc H3 e3 => ?_) fun hc H3 e3 => ?_
    · rw [decide_eq_true_eq] at hc
      have h1 : (tNat l 0 2 s).1 = 1 := by omega
      have hT : tCell l s = (.num (tNum l (-1000000) 1000000 (tNat l 0 2 s).2).1, (tNum l (-1000000) 1000000 (tNat l 0 2 s).2).2) := by unfold tCell; rw [if_neg h0, if_pos h1]
      rw [hT] at k
      have e23 := e2.trans e3
      refine t_me (-1000000, 1000000) (ev_var rfl) (t1'.ex e23) (SqL.ex e23 hl1) hz (ea_cons (ev_neg ev_c) (ea_cons ev_c ea_nil)) trivial fun v H4 e4 t4 hv4 => ?_
      exact ⟨_, ⟨_, rfl, hv4⟩, fun v' H5 e5 hd => k _ H5 (((e1.trans (ExB.of e23)).trans e4).trans (ExB.of e5)) (t4.ex e5) hd⟩
    · rw [decide_eq_false_iff_not] at hc
      have h1 : ¬ (tNat l 0 2 s).1 = 1 := by omega
      have hT : tCell l s = (.word (tWord l (tNat l 0 2 s).2).1, (tWord l (tNat l 0 2 s).2).2) := by unfold tCell; rw [if_neg h0, if_neg h1]
      rw [hT] at k
      have e23 := e2.trans e3
      refine t_me () (ev_var rfl) (t1'.ex e23) (SqL.ex e23 hl1) hz ea_nil trivial fun v H4 e4 t4 hv4 => ?_
      have hwl : (tWord l (tNat l 0 2 s).2).1.length ≤ 2000 := by
        have := tNat_range l (a := 1) (b := 8) (by decide) (tNat l 0 2 s).2
        show (tRep _ _ _).1.length ≤ _
        rw [tRep_len]
        omega
      exact ⟨_, ⟨_, rfl, hwl, hv4⟩, fun v' H5 e5 hd => k _ H5 (((e1.trans (ExB.of e23)).trans e4).trans (ExB.of e5)) (t4.ex e5) hd⟩
theorem me_Taker_headings (T : Tops K mg ad) : Me P w K mg base ad.Taker "headings" 3 ["self"] (spTkH K ad) := by
  refine Me.mk' T.m_Taker_headings sc_Taker_headings lTkH fun cdv f A outer s H E hr => ⟨_, (pss_cons (ps_set (i := 1) sc_Taker_headings.nd rfl (Or.inl rfl) (pe_me (me_Taker_number T) T.k_Taker (hr.mono (by decide)) (pv 0) (pa_cons pe_int (pa_cons pe_int pa_nil))))
      (pss_cons (ps_set (i := 2) sc_Taker_headings.nd rfl (Or.inl rfl) (pe_lst pa_nil))
      (pss_cons (ps_for PassesOwn.never rfl (pi_range1 rfl T.b_range (pa_cons (pv 1) pa_nil)) (pg_name (i := 3) sc_Taker_headings.nd rfl (Or.inl rfl)) (pss_one (ps_expr (pe_bm PySem.F.plainAttrs_list PySem.F.slot_list_append PySem.F.type_list_append mt_append (pv 2) (pa_cons (pe_me0 (me_Taker_word T) T.k_Taker (hr.mono (by decide)) (pv 0)) pa_nil)))))
      (pss_one (ps_ret (pv 2)))))), ?_⟩
  rintro vs Q ⟨a, nl, l, s, rfl, ht, hl, hz, k⟩
  refine t_me (1, 5) (ev_var rfl) ht hl hz (ea_cons ev_c (ea_cons ev_c ea_nil)) trivial fun v H1 e1 t1 hv => ?_
  have hm := tNat_int l (a := 1) (b := 5) (by decide) s
  have hr := tNat_range l (a := 1) (b := 5) (by decide) s
  have hv' : v = .int ((tNat l 1 5 s).1 : Nat) := by rw [hm]; exact hv
  subst hv'
  have t1' : TakI ad H1 a nl (tNat l 1 5 s).2 := t1
  have hl1 := sqL_exs (ht.s e1) hl
  refine Evl.q_asgL (Evl.el_lst ea_nil (Nat.zero_le _)) fun p H2 np e2 hp => ?_
  have hpn : H p = none := by
    cases hh : H p with
    | none => rfl
    | some o =>
      by_cases q : p = a
      · obtain ⟨dx, hd⟩ := t1'
        rw [q, hd] at np
        cases np
      · have := e1 _ _ hh q
        rw [np] at this
        cases this
  obtain ⟨m, hmm⟩ : ∃ m, m = (tNat l 1 5 s).1 := ⟨_, rfl⟩
  obtain ⟨s1, hs1⟩ : ∃ s1, s1 = (tNat l 1 5 s).2 := ⟨_, rfl⟩
  have hW : tHead l s = tRep (tWord l) m s1 := by rw [hmm, hs1]; rfl
  rw [← hmm] at hr ⊢
  rw [← hs1] at t1'
  rw [hW] at k
  refine Evl.q_forR1 (n := (m : Nat)) (ea_cons (ev_var rfl) ea_nil) (by omega)
    (fun i σ' H' => (ExB a H1 H' ∧ TakI ad H' a nl (tRep (tWord l) i s1).2) ∧ (∃ ys, H' p = some (.lst ys) ∧ DpAll K H' ys ((tRep (tWord l) i s1).1.map bD)) ∧ ∃ x, σ' = [some (.ref a), some (.int (m : Nat)), some (.ref p), x])
    (fun H3 e3 => ⟨⟨ExB.of (e2.trans e3), t1'.ex (e2.trans e3)⟩, ⟨[], e3 _ _ hp, .nil⟩, none, rfl⟩) ?_ ?_
  · rintro i σ' H' hi ⟨⟨e, t⟩, ⟨ys, hy, hyd⟩, x, rfl⟩
    have hlen := tRep_len (tWord l) i s1
    have hyl : ys.length = i := by have := DpAll.len hyd; rw [List.length_map, hlen] at this; exact this
    refine ⟨_, rfl, Or.inl ⟨rfl, _, SqL.of hy⟩, ?_⟩
    refine t_me () (ev_var rfl) t (sqL_exs (t1.s e) hl1) hz ea_nil trivial fun v H4 e4 t4 hv4 => ?_
    have hpa : p ≠ a := fun z => by
      obtain ⟨dx, hd⟩ := t1'
      rw [z, hd] at np
      cases np
    have hp4 := e4 _ _ hy hpa
    refine ⟨p, _, v, rfl, rfl, hp4, Evl.sz_lt (by omega), ⟨?_, ?_⟩, ⟨_, upd_same, ?_⟩, _, rfl⟩
    · exact (e.trans e4).mut np
    · exact TakI.upd t4 hp4
    · rw [rep_succ, List.map_append]
      exact DpAll.app (stabAll (stab_map stab_bD _) hp4 (dpAll_exs (t.s e4) _ _ hyd)) (DpAll.one (stab_bD _ _ _ _ _ _ hp4 (isB_dp.mp hv4)))
  · rintro σ' H' ⟨⟨e, t⟩, ⟨ys, hy, hyd⟩, x, rfl⟩
    rw [Int.toNat_natCast] at t hyd
    exact Evl.s_ret (ev_var rfl) fun H4 e4 => k p H4 hpn ((e1.trans e).trans (ExB.of e4)) (t.ex e4) (Dp.ex e4 (dp_list.mpr ⟨p, ys, rfl, SqL.of hy, hyd⟩))
theorem me_Taker_row (T : Tops K mg ad) : Me P w K mg base ad.Taker "row" 4 ["self", "columns"] (spTk K ad (fun (n : Nat) => [.int (n : Nat)]) (fun n => n ≤ 1000) (fun n l s => tRow l n s) (fun r v H => Dp K H v (rD r))) := by
  refine Me.mk' T.m_Taker_row sc_Taker_row (lTk fun _ => rfl) fun cdv f A outer s H E hr => ⟨_, (pss_cons (ps_set (i := 2) sc_Taker_row.nd rfl (Or.inl rfl) (pe_lst pa_nil))
      (pss_cons (ps_for PassesOwn.never rfl (pi_range1 rfl T.b_range (pa_cons (pv 1) pa_nil)) (pg_name (i := 3) sc_Taker_row.nd rfl (Or.inl rfl)) (pss_one (ps_expr (pe_bm PySem.F.plainAttrs_list PySem.F.slot_list_append PySem.F.type_list_append mt_append (pv 2) (pa_cons (pe_me0 (me_Taker_cell T) T.k_Taker (hr.mono (by decide)) (pv 0)) pa_nil)))))
      (pss_one (ps_ret (pe_callTy call_tuple_of (by rfl) T.b_tuple (by decide +kernel) (pa_cons (pv 2) pa_nil)))))), ?_⟩
  rintro vs Q ⟨n, a, nl, l, s, rfl, hn, ht, hl, hz, k⟩
  change ∀ v H', ExB a H H' → TakI ad H' a nl (tRep (tCell l) n s).2 → Dp K H' v (rD (tRep (tCell l) n s).1) → Q v H' at k
  refine Evl.q_asgL (Evl.el_lst ea_nil (Nat.zero_le _)) fun p H2 np e2 hp => ?_
  refine Evl.q_forR1 (n := (n : Nat)) (ea_cons (ev_var rfl) ea_nil) (by omega)
    (fun i σ' H' => (ExB a H H' ∧ TakI ad H' a nl (tRep (tCell l) i s).2) ∧ (∃ ys, H' p = some (.lst ys) ∧ DpAll K H' ys ((tRep (tCell l) i s).1.map cD)) ∧ ∃ x, σ' = [some (.ref a), some (.int (n : Nat)), some (.ref p), x])
    (fun H3 e3 => ⟨⟨ExB.of (e2.trans e3), ht.ex (e2.trans e3)⟩, ⟨[], e3 _ _ hp, .nil⟩, none, rfl⟩) ?_ ?_
  · rintro i σ' H' hi ⟨⟨e, t⟩, ⟨ys, hy, hyd⟩, x, rfl⟩
    have hlen := tRep_len (tCell l) i s
    have hyl : ys.length = i := by have := DpAll.len hyd; rw [List.length_map, hlen] at this; exact this
    refine ⟨_, rfl, Or.inl ⟨rfl, _, SqL.of hy⟩, ?_⟩
    refine t_me () (ev_var rfl) t (sqL_exs (ht.s e) hl) hz ea_nil trivial fun v H4 e4 t4 hv4 => ?_
    have hpa : p ≠ a := fun z => by
      obtain ⟨dx, hd⟩ := ht
      rw [z, hd] at np
      cases np
    have hp4 := e4 _ _ hy hpa
    refine ⟨p, _, v, rfl, rfl, hp4, Evl.sz_lt (by omega), ⟨?_, ?_⟩, ⟨_, upd_same, ?_⟩, _, rfl⟩
    · exact (e.trans e4).mut np
    · exact TakI.upd t4 hp4
    · rw [rep_succ, List.map_append]
      exact DpAll.app (stabAll (stab_map stab_cD _) hp4 (dpAll_exs (t.s e4) _ _ hyd)) (DpAll.one (stab_cD _ _ _ _ _ _ hp4 hv4))
  · rintro σ' H' ⟨⟨e, t⟩, ⟨ys, hy, hyd⟩, x, rfl⟩
    rw [Int.toNat_natCast] at t hyd
    exact Evl.s_retU (evu_tupleV (ev_var rfl) (SqL.of hy)) fun q H4 nq e4 hq => k _ H4 (e.trans (ExB.of e4)) (t.ex e4) (dp_rD.mpr ⟨q, ys, rfl, SqT.of hq, DpAll.ex e4 hyd⟩)
theorem me_Taker_whole (T : Tops K mg ad) : Me P w K mg base ad.Taker "whole" 1 ["self"] (spTk K ad (fun (_ : Unit) => []) (fun _ => True) (fun _ l s => (tWhole l s, s)) (fun b v H => v = .bl b)) := by
  refine Me.mk' T.m_Taker_whole sc_Taker_whole (lTk fun _ => rfl) fun cdv f A outer s H E hr => ⟨_, (pss_one (ps_ret (pe_and (pe_fld (pv 0) rfl) (pe_one (pe_cmpR op_eq (pe_fld (pv 0) rfl) (pe_callB call_len_seq (by rfl) T.b_len PySem.boot_len (pa_cons (pe_fld (pv 0) rfl) pa_nil)) (nomark _)))))), ?_⟩
  rintro vs Q ⟨_, a, nl, l, s, rfl, _, ht, hl, hz, k⟩
  obtain ⟨dx, hd⟩ := ht
  refine Evl.s_ret (ev_bool (Evl.ev_andV (ev_fld (ev_var rfl) hd T.k_Taker T.a_Taker_good tak_good) fun _ => ev_eqI (ev_fld (ev_var rfl) hd T.k_Taker T.a_Taker_at tak_at) (ev_lenL (ev_fld (ev_var rfl) hd T.k_Taker T.a_Taker_numbers tak_numbers) hl)) (b := tWhole l s) ?_) fun H1 e1 => k _ H1 (ExB.of e1) ⟨dx, e1 _ _ hd⟩ rfl
  unfold tWhole
  rw [List.length_map]
  congr 1
  exact decide_eq_decide.mpr (by omega)
end
end Tx
end

section
set_option Elab.async false
set_option linter.all false
set_option maxRecDepth 100000
set_option maxHeartbeats 4000000
set_option exponentiation.threshold 100000
namespace Tx
open PySem PySem.Spec PyProof.Rows L2
open Evl (Ex Ev EvL EvU EvT EvA EvO RV ev_c ev_var ea_nil ea_cons eo_none eo_some)
open VatdfBase (Cell Table)
theorem evl_dp {K : PySem.W.Frag} {te : TE} {σ : L2.St} {H : Hp} {xs : List V} {ds : List PyData} (h : EvL te σ H xs) (hd : DpAll K H xs ds) : EvP te σ H (fun v H2 => Dp K H2 v (.list ds)) :=
  (evp_F h).imp fun v H2 e ⟨p, hv, hp⟩ => dp_list.mpr ⟨p, xs, hv, SqL.of hp, DpAll.ex e hd⟩
theorem any_bD (ns : List (List Nat)) (u : List Nat) : ((ns.map bD).any fun z => PyData.eqv z (bD u)) = ns.contains u := by
  rw [List.any_map, List.contains_eq_any_beq]
  refine congrArg (fun f => ns.any f) (funext fun n => ?_)
  show PyData.eqv (bD n) (bD u) = (u == n)
  rw [eqv_bD, Bool.eq_iff_iff, decide_eq_true_eq, beq_iff_eq]
  exact eq_comm
def nat' (ns : List (List Nat)) (k : Nat) : List Nat := (ns[k]?).getD []
theorem goodTo_succ (ns : List (List Nat)) (n : Nat) : goodTo ns (n + 1) = (goodTo ns n && (VatdfBase.isName (nat' ns n) && !(ns.take n).contains (nat' ns n))) := by
  unfold goodTo
  rw [List.range_succ, List.all_append]
  simp [nat']
theorem goodTo_no {ns : List (List Nat)} {n : Nat} (h : n < ns.length) (hb : (VatdfBase.isName (nat' ns n) && !(ns.take n).contains (nat' ns n)) = false) : namesGood ns = false := by
  unfold namesGood goodTo
  rw [List.all_eq_false]
  exact ⟨n, List.mem_range.mpr h, by show ¬ (VatdfBase.isName (nat' ns n) && !(ns.take n).contains (nat' ns n)) = true; rw [hb]; decide⟩
theorem ExB.ex {a : Addr} {H H' : Hp} (e : ExB a H H') (h : H a = none) : Ex H H' := fun b o hb => e b o hb fun z => by rw [z, h] at hb; cases hb
/-- what was not there is not -/
def Dm (H0 H : Hp) : Prop := ∀ a, H a = none → H0 a = none
theorem Dm.of {H0 H : Hp} (e : Ex H0 H) : Dm H0 H := fun _ h => Evl.fresh_back e h
theorem Dm.ex {H0 H H' : Hp} (d : Dm H0 H) (e : Ex H H') : Dm H0 H' := fun a h => d a (Evl.fresh_back e h)
theorem Dm.upd {H0 H : Hp} {p : Addr} {o : HO} (d : Dm H0 H) : Dm H0 (upd H p o) := fun a h => d a (by
  by_cases q : a = p
  · rw [q, upd_same] at h; cases h
  · rw [upd_ne q] at h; exact h)
/-- a table whose lists were made behind H0 -/
def isTabF (K : PySem.W.Frag) (ad : Ads) (H0 : Hp) (t : Table) (v : V) (H : Hp) : Prop := ∃ a ln lr ns rs, v = .ref a ∧ TabAt K ad H t a ln lr ns rs ∧ H0 ln = none ∧ H0 lr = none
theorem isTabF.tab {K : PySem.W.Frag} {ad : Ads} {H0 H : Hp} {t : Table} {v : V} (h : isTabF K ad H0 t v H) : isTab K ad t v H := by
  obtain ⟨a, ln, lr, ns, rs, h1, h2, _⟩ := h
  exact ⟨a, ln, lr, ns, rs, h1, h2⟩
theorem isTabF.ex {K : PySem.W.Frag} {ad : Ads} {H0 H H' : Hp} {t : Table} {v : V} (e : Ex H H') (h : isTabF K ad H0 t v H) : isTabF K ad H0 t v H' := by
  obtain ⟨a, ln, lr, ns, rs, h1, h2, h3, h4⟩ := h
  exact ⟨a, ln, lr, ns, rs, h1, h2.ex e, h3, h4⟩
theorem sqL_upd_ne {K : PySem.W.Frag} {H : Hp} {a p : Addr} {xs : List V} {o : HO} (h : a ≠ p) (s : SqL K H a xs) : SqL K (upd H p o) a xs := by
  rcases s with (s | ⟨o', s⟩) | s
  · exact .inl (.inl (by rw [upd_ne h]; exact s))
  · exact .inl (.inr ⟨o', by rw [upd_ne h]; exact s⟩)
  · exact .inr s
theorem isTabF.upd {K : PySem.W.Frag} {ad : Ads} {H0 H : Hp} {t : Table} {v : V} {p : Addr} {xs zs : List V} {o : HO} (h : isTabF K ad H0 t v H) (hp : H p = some (.lst xs)) (h0 : H0 p = some o) : isTabF K ad H0 t v (upd H p (.lst zs)) := by
  obtain ⟨a, ln, lr, ns, rs, h1, ⟨⟨dx, t1⟩, t2, t3, t4, t5⟩, h3, h4⟩ := h
  exact ⟨a, ln, lr, ns, rs, h1, ⟨⟨dx, by rw [upd_ne (ne_of t1 hp (by intro z; cases z))]; exact t1⟩, sqL_upd_ne (ne_of_none h0 h3).symm t2, stabAll (stab_map stab_bD _) hp t3, sqL_upd_ne (ne_of_none h0 h4).symm t4, stabAll (stab_map stab_rD _) hp t5⟩, h3, h4⟩
theorem tabF_of {K : PySem.W.Frag} {ad : Ads} {H0 H : Hp} {ns : List (List Nat)} {rs : List TRow} {a dx ln lr : Addr} (h : H a = some (.ins ad.Table dx (tabF (.ref ln) (.ref lr)))) (hx : Dp K H (.ref ln) (.list (ns.map bD))) (hy : Dp K H (.ref lr) (.list (rs.map rD))) (n1 : H0 ln = none) (n2 : H0 lr = none) : isTabF K ad H0 ⟨ns, rs⟩ (.ref a) H := by
  obtain ⟨ln', nv, e1, h1, h2⟩ := dp_list.mp hx
  obtain ⟨lr', rv, e2, h3, h4⟩ := dp_list.mp hy
  cases e1
  cases e2
  exact ⟨a, ln, lr, nv, rv, rfl, ⟨⟨dx, h⟩, h1, h2, h3, h4⟩, n1, n2⟩
/-- a table at its place, from its parts -/
theorem tab_of {K : PySem.W.Frag} {ad : Ads} {H : Hp} {ns : List (List Nat)} {rs : List TRow} {a dx : Addr} {x y : V} (h : H a = some (.ins ad.Table dx (tabF x y))) (hx : Dp K H x (.list (ns.map bD))) (hy : Dp K H y (.list (rs.map rD))) : isTab K ad ⟨ns, rs⟩ (.ref a) H := by
  obtain ⟨ln, nv, rfl, h1, h2⟩ := dp_list.mp hx
  obtain ⟨lr, rv, rfl, h3, h4⟩ := dp_list.mp hy
  exact ⟨a, ln, lr, nv, rv, rfl, ⟨dx, h⟩, h1, h2, h3, h4⟩
section
variable {P : Program} {w : World} {K : PySem.W.Frag} {mg : Str → Option Value} {base : Heap} {ad : Ads}
theorem fn_names_good (T : Tops K mg ad) : Fn P w K mg base "names_good" 3 ["said"] (spV (A1 fun (ns : List (List Nat)) v H => ns.length ≤ 5 ∧ (∀ n ∈ ns, n.length ≤ 2000) ∧ Dp K H v (.list (ns.map bD))) fun ns => .bl (namesGood ns)) := by
  refine Fn.mk' T.f_names_good sc_names_good lV1 fun cdv f A outer s H E hr => ⟨_, (pss_cons (ps_for PassesOwn.never rfl (pi_range1 rfl T.b_range (pa_cons (pe_callB call_len_seq (by rfl) T.b_len PySem.boot_len (pa_cons (pv 0) pa_nil)) pa_nil)) (pg_name (i := 1) sc_names_good.nd rfl (Or.inl rfl)) (pss_one (ps_if (PW.pt (pw_or (pt_not (pt_val (pe_fn (fn_is_name T) (hr.mono (by decide)) (pa_cons (pe_ix ix_list (pv 0) (pv 1) (fun _ _ => rfl)) pa_nil)))) (pw_or1 (pt_cmpR (op_inD (hu65 hr)) (pe_ix ix_list (pv 0) (pv 1) (fun _ _ => rfl)) (pe_slice sl_list (pv 0) po_none (po_some (pv 1))) rfl)))) (pss_one (ps_ret pe_bl)) pss_nil)))
      (pss_one (ps_ret pe_bl))), ?_⟩
  rintro vs Q ⟨ns, ⟨v, rfl, h5, h8, hv⟩, k⟩
  obtain ⟨b, xs, rfl, hl, hd⟩ := dp_list.mp hv
  have hxl : xs.length = ns.length := by have := DpAll.len hd; rwa [List.length_map] at this
  refine Evl.q_forR1 (n := ns.length) (ea_cons (ev_int (ev_lenL (ev_var rfl) hl) (by rw [hxl])) ea_nil) (by omega)
    (fun i σ' H' => Ex H H' ∧ goodTo ns i = true ∧ ∃ vk, σ' = [some (.ref b), vk]) (fun H1 e1 => ⟨e1, rfl, none, rfl⟩) ?_ ?_
  · rintro i σ' H' hi ⟨e, hg, vk, rfl⟩
    have hi' : i < ns.length := by omega
    have hl' := SqL.ex e hl
    have hn : ns[i]? = some (nat' ns i) := by
      unfold nat'
      rw [List.getElem?_eq_getElem hi']
      rfl
    obtain ⟨x, hx, hxd⟩ := DpAll.get (DpAll.ex e hd) (i := i) (d := bD (nat' ns i)) (by rw [List.getElem?_map, hn]; rfl)
    have hit : Ev (tOp (rIxL K) (tVar 0) (tVar 1)) [some (.ref b), some (.int (i : Nat))] H' x := ev_ixL (ev_var rfl) (ev_var rfl) hl' (atI_nat hx)
    have hsl : EvL (tSl (rSlL K) (tVar 0) tNoPart (tPart (tVar 1))) [some (.ref b), some (.int (i : Nat))] H' (xs.take i) := by
      have := evl_sl (K := K) (te := tVar 0) (tl := tNoPart) (th := tPart (tVar 1)) (σ := [some (.ref b), some (.int (i : Nat))]) (ev_var rfl) eo_none (eo_some (ev_var rfl)) hl'
      rwa [cut_to (by omega)] at this
    have hdt : DpAll K H' (xs.take i) ((ns.take i).map bD) := by rw [List.map_take]; exact DpAll.take i (DpAll.ex e hd)
    refine Evl.s_when (Evl.et_or (Evl.et_not (et_val (ev_callV (nat' ns i) (ea_cons hit ea_nil) fun H1 e1 => ⟨_, rfl, h8 _ (List.mem_of_getElem? hn), isB_dp.mpr (Dp.ex e1 hxd)⟩))) fun _ => Evl.et_test (ev_inD (evp_dp hit hxd) (evl_dp hsl hdt) (shaped_bD _) (shaped_list lay_bD depth_bD (by decide) _) (any_bD _ _))) (fun hb H1 e1 => ?_) fun hb H1 e1 => ?_
    · refine Evl.s_ret (ev_bool ev_c ?_) fun H2 e2 => k H2 ((e.trans e1).trans e2)
      show false = namesGood ns
      refine (goodTo_no hi' ?_).symm
      generalize (ns.take i).contains (nat' ns i) = c2 at hb ⊢
      generalize VatdfBase.isName (nat' ns i) = c1 at hb ⊢
      revert hb
      cases c1 <;> cases c2 <;> simp
    · refine ⟨e.trans e1, ?_, _, rfl⟩
      rw [goodTo_succ, hg]
      generalize (ns.take i).contains (nat' ns i) = c2 at hb ⊢
      generalize VatdfBase.isName (nat' ns i) = c1 at hb ⊢
      revert hb
      cases c1 <;> cases c2 <;> simp
  · rintro σ' H' ⟨e, hg, vk, rfl⟩
    exact Evl.s_ret (ev_bool ev_c (show true = namesGood ns from hg.symm)) fun H2 e2 => k H2 (e.trans e2)
theorem fn_taken_cell (T : Tops K mg ad) : Fn P w K mg base "taken_cell" 4 ["numbers"] (spP (A1 fun (l : List Int) v H => l.length ≤ 1000 ∧ isL K l v H) fun l v H => match takenCell l with | none => v = .non | some c => Dp K H v (cD c)) := by
  refine Fn.mk' T.f_taken_cell sc_taken_cell lP1 fun cdv f A outer s H E hr => ⟨_, (pss_cons (ps_set (i := 1) sc_taken_cell.nd rfl (Or.inl rfl) (pe_new (in_Taker T) (hr.mono (by decide)) (pa_cons (pv 0) pa_nil)))
      (pss_cons (ps_set (i := 2) sc_taken_cell.nd rfl (Or.inl rfl) (pe_me0 (me_Taker_cell T) T.k_Taker (hr.mono (by decide)) (pv 1)))
      (pss_cons (ps_if (pt_not (pt_val (pe_me0 (me_Taker_whole T) T.k_Taker (hr.mono (by decide)) (pv 1)))) (pss_one (ps_ret pe_non)) pss_nil)
      (pss_one (ps_ret (pv 2)))))), ?_⟩
  rintro vs Q ⟨l, ⟨v, rfl, hz, b, rfl, hl⟩, k⟩
  change SqL K H b (l.map V.int) at hl
  refine q_asgF (evf_new (ea_cons (ev_var rfl) ea_nil) rfl) fun a H1 na e1 ⟨dx, hd⟩ => ?_
  have t1 : TakI ad H1 a b (0, true) := ⟨dx, hd⟩
  refine t_me () (ev_var rfl) t1 (SqL.ex e1 hl) hz ea_nil trivial fun v H2 e2 t2 hv => ?_
  have x2 : Ex H H2 := ((ExB.of e1).trans e2).ex na
  refine t_me () (ev_var rfl) t2 (SqL.ex x2 hl) hz ea_nil trivial fun v' H3 e3 t3 hv' => ?_
  have x3 : Ex H H3 := (((ExB.of e1).trans e2).trans e3).ex na
  subst hv'
  refine ⟨_, rfl, ?_⟩
  change ∀ v H', Ex H H' → (match takenCell l with | none => v = .non | some c => Dp K H' v (cD c)) → Q v H' at k
  unfold takenCell at k
  change (if (!tWhole l (tCell l (0, true)).2) = true then _ else _)
  cases hW : tWhole l (tCell l (0, true)).2 with
  | false =>
    rw [hW] at k
    exact Evl.s_ret ev_c fun H4 e4 => k _ H4 (x3.trans e4) rfl
  | true =>
    rw [hW] at k
    exact Evl.s_ret (ev_var rfl) fun H4 e4 => k _ H4 (x3.trans e4) (Dp.ex e4 (dp_exs (t2.s e3) _ _ hv))
theorem fn_taken_table (T : Tops K mg ad) : Fn P w K mg base "taken_table" 5 ["numbers"] (spP (A1 fun (x : List Int × Hp) v H => x.1.length ≤ 1000 ∧ isL K x.1 v H ∧ Dm x.2 H) fun x v H => match takenTable x.1 with | none => v = .non | some t => isTabF K ad x.2 t v H) := by
  refine Fn.mk' T.f_taken_table sc_taken_table lP1 fun cdv f A outer s H E hr => ⟨_, (pss_cons (ps_set (i := 1) sc_taken_table.nd rfl (Or.inl rfl) (pe_new (in_Taker T) (hr.mono (by decide)) (pa_cons (pv 0) pa_nil)))
      (pss_cons (ps_set (i := 2) sc_taken_table.nd rfl (Or.inl rfl) (pe_me0 (me_Taker_headings T) T.k_Taker (hr.mono (by decide)) (pv 1)))
      (pss_cons (ps_set (i := 3) sc_taken_table.nd rfl (Or.inl rfl) (pe_me (me_Taker_number T) T.k_Taker (hr.mono (by decide)) (pv 1) (pa_cons pe_int (pa_cons pe_int pa_nil))))
      (pss_cons (ps_set (i := 4) sc_taken_table.nd rfl (Or.inl rfl) (pe_lst pa_nil))
      (pss_cons (ps_for PassesOwn.never rfl (pi_range1 rfl T.b_range (pa_cons (pv 3) pa_nil)) (pg_name (i := 5) sc_taken_table.nd rfl (Or.inl rfl)) (pss_one (ps_expr (pe_bm PySem.F.plainAttrs_list PySem.F.slot_list_append PySem.F.type_list_append mt_append (pv 4) (pa_cons (pe_me (me_Taker_row T) T.k_Taker (hr.mono (by decide)) (pv 1) (pa_cons (pe_callB call_len_seq (by rfl) T.b_len PySem.boot_len (pa_cons (pv 2) pa_nil)) pa_nil)) pa_nil)))))
      (pss_cons (ps_if (PW.pt (pw_or (pt_not (pt_val (pe_me0 (me_Taker_whole T) T.k_Taker (hr.mono (by decide)) (pv 1)))) (pw_or1 (pt_not (pt_val (pe_fn (fn_names_good T) (hr.mono (by decide)) (pa_cons (pv 2) pa_nil))))))) (pss_one (ps_ret pe_non)) pss_nil)
      (pss_one (ps_ret (pe_new (in_Table T) (hr.mono (by decide)) (pa_cons (pv 2) (pa_cons (pv 4) pa_nil))))))))))), ?_⟩
  rintro vs Q ⟨⟨l, H0⟩, ⟨v, rfl, hz, ⟨b, rfl, hl⟩, hdm⟩, k⟩
  change l.length ≤ 1000 at hz
  change Dm H0 H at hdm
  change SqL K H b (l.map V.int) at hl
  refine q_asgF (evf_new (ea_cons (ev_var rfl) ea_nil) rfl) fun a H1 na e1 ⟨dx, hd⟩ => ?_
  have t1 : TakI ad H1 a b (0, true) := ⟨dx, hd⟩
  refine t_meH (ev_var rfl) t1 (SqL.ex e1 hl) hz fun lh H2 nlh e2 t2 hv => ?_
  have x2 : Ex H H2 := ((ExB.of e1).trans e2).ex na
  refine t_me (0, 12) (ev_var rfl) t2 (SqL.ex x2 hl) hz (ea_cons ev_c (ea_cons ev_c ea_nil)) trivial fun v' H3 e3 t3 hv' => ?_
  have x3 : Ex H H3 := (((ExB.of e1).trans e2).trans e3).ex na
  have hm := tNat_int l (a := 0) (b := 12) (by decide) (tHead l (0, true)).2
  have hr := tNat_range l (a := 0) (b := 12) (by decide) (tHead l (0, true)).2
  have hh := tNat_range l (a := 1) (b := 5) (by decide) (0, true)
  have hhl : (tHead l (0, true)).1.length ≤ 5 := by
    show (tRep _ _ _).1.length ≤ _
    rw [tRep_len]
    exact hh.2
  have hv3 : v' = .int ((tNat l 0 12 (tHead l (0, true)).2).1 : Nat) := by rw [hm]; exact hv'
  have t3' : TakI ad H3 a b (tNat l 0 12 (tHead l (0, true)).2).2 := t3
  subst hv3
  have hvd : Dp K H3 (.ref lh) (.list ((tHead l (0, true)).1.map bD)) := dp_exs (t2.s e3) _ _ hv
  change ∀ v H', Ex H H' → (match takenTable l with | none => v = .non | some t => isTabF K ad H0 t v H') → Q v H' at k
  unfold takenTable at k
  unfold tRows tListed at k
  have h2000 : ∀ n ∈ (tHead l (0, true)).1, n.length ≤ 2000 := by
    have hx : ∀ m s, ∀ n ∈ (tRep (tWord l) m s).1, n.length ≤ 2000 := by
      intro m
      induction m with
      | zero => intro s n hn; simp [tRep] at hn
      | succ m ih =>
        intro s n hn
        rw [rep_succ] at hn
        rcases List.mem_append.mp hn with hn | hn
        · exact ih _ _ hn
        · rw [List.mem_singleton.mp hn]
          show (tRep _ _ _).1.length ≤ _
          rw [tRep_len]
          have := tNat_range l (a := 1) (b := 8) (by decide) (tRep (tWord l) m s).2
          omega
    exact hx _ _
  generalize hhd : (tHead l (0, true)).1 = ns at *
  generalize hm' : (tNat l 0 12 (tHead l (0, true)).2).1 = m at *
  generalize hs1 : (tNat l 0 12 (tHead l (0, true)).2).2 = s1 at *
  obtain ⟨ln, nv, hln0, hln, hnd⟩ := dp_list.mp hvd
  cases hln0
  have hnl : nv.length = ns.length := by have := DpAll.len hnd; rwa [List.length_map] at this
  have hl3 := SqL.ex x3 hl
  refine Evl.q_asgL (Evl.el_lst ea_nil (Nat.zero_le _)) fun p H4 np e4 hp => ?_
  refine Evl.q_forR1 (n := (m : Nat)) (ea_cons (ev_var rfl) ea_nil) (by omega)
    (fun i σ' H' => (ExB a H3 H' ∧ TakI ad H' a b (tRep (tRow l ns.length) i s1).2) ∧ (∃ ys, H' p = some (.lst ys) ∧ DpAll K H' ys ((tRep (tRow l ns.length) i s1).1.map rD)) ∧ ∃ x, σ' = [some (.ref b), some (.ref a), some (.ref lh), some (.int (m : Nat)), some (.ref p), x])
    (fun H5 e5 => ⟨⟨ExB.of (e4.trans e5), t3'.ex (e4.trans e5)⟩, ⟨[], e5 _ _ hp, .nil⟩, none, rfl⟩) ?_ ?_
  · rintro i σ' H' hi ⟨⟨e, t⟩, ⟨ys, hy, hyd⟩, x, rfl⟩
    have hlen := tRep_len (tRow l ns.length) i s1
    have hyl : ys.length = i := by have := DpAll.len hyd; rw [List.length_map, hlen] at this; exact this
    have hse := t3'.s e
    refine ⟨_, rfl, Or.inl ⟨rfl, _, SqL.of hy⟩, ?_⟩
    refine t_me ns.length (ev_var rfl) t (sqL_exs hse hl3) hz (ea_cons (ev_int (ev_lenL (ev_var rfl) (sqL_exs hse hln)) (by rw [hnl])) ea_nil) (by omega) fun v H5 e5 t5 hv5 => ?_
    have hpa : p ≠ a := fun z => by
      obtain ⟨dx, hd⟩ := t3'
      rw [z, hd] at np
      cases np
    have hp5 := e5 _ _ hy hpa
    refine ⟨p, _, v, rfl, rfl, hp5, Evl.sz_lt (by omega), ⟨?_, ?_⟩, ⟨_, upd_same, ?_⟩, _, rfl⟩
    · exact (e.trans e5).mut np
    · exact TakI.upd t5 hp5
    · rw [rep_succ, List.map_append]
      exact DpAll.app (stabAll (stab_map stab_rD _) hp5 (dpAll_exs (t.s e5) _ _ hyd)) (DpAll.one (stab_rD _ _ _ _ _ _ hp5 hv5))
  · rintro σ' H' ⟨⟨e, t⟩, ⟨ys, hy, hyd⟩, x, rfl⟩
    rw [Int.toNat_natCast] at t hyd
    have x4 : Ex H H' := (((((ExB.of e1).trans e2).trans e3)).trans e).ex na
    have hvd' : Dp K H' (.ref lh) (.list (ns.map bD)) := dp_exs (t3'.s e) _ _ hvd
    refine t_me () (ev_var rfl) t (SqL.ex x4 hl) hz ea_nil trivial fun v' H6 e6 t6 hv' => ?_
    have x6 : Ex H H6 := ((((((ExB.of e1).trans e2).trans e3)).trans e).trans e6).ex na
    have hpa : p ≠ a := fun z => by
      obtain ⟨dx, hd⟩ := t3'
      rw [z, hd] at np
      cases np
    have hp6 := e6 _ _ hy hpa
    have hyd6 := dpAll_exs (t.s e6) _ _ hyd
    have hvd6 : Dp K H6 (.ref lh) (.list (ns.map bD)) := dp_exs (t.s e6) _ _ hvd'
    subst hv'
    refine ⟨_, rfl, ?_⟩
    change (if (!tWhole l (tRep (tRow l ns.length) m s1).2) = true then _ else _)
    cases hW : tWhole l (tRep (tRow l ns.length) m s1).2 with
    | false =>
      rw [hW, Bool.false_and] at k
      exact Evl.s_ret (σ := [some (.ref b), some (.ref a), some (.ref lh), some (.int (m : Nat)), some (.ref p), x]) ev_c fun H7 e7 => k _ H7 (x6.trans e7) rfl
    | true =>
      rw [hW, Bool.true_and] at k
      refine Evl.q_when (Evl.et_not (et_val (ev_callV ns (ea_cons (ev_var rfl) ea_nil) fun H7 e7 => ⟨_, rfl, hhl, h2000, Dp.ex e7 hvd6⟩))) (fun hb H7 e7 => ?_) fun hb H7 e7 => ?_
      · rw [Bool.not_eq_true'] at hb
        rw [hb] at k
        exact Evl.s_ret ev_c fun H8 e8 => k _ H8 ((x6.trans e7).trans e8) rfl
      · rw [Bool.not_eq_false'] at hb
        rw [hb] at k
        refine s_retF (evf_new (ea_cons (ev_var rfl) (ea_cons (ev_var rfl) ea_nil)) rfl) fun q H8 nq e8 ⟨dx', hq⟩ => k _ H8 ((x6.trans e7).trans e8) (tabF_of hq (Dp.ex (e7.trans e8) hvd6) (Dp.ex (e7.trans e8) (dp_list.mpr ⟨p, ys, rfl, SqL.of hp6, hyd6⟩)) (hdm _ (Evl.fresh_back e1 nlh)) (hdm _ (Evl.fresh_back x3 np)))
end
end Tx
end

section
set_option Elab.async false
set_option linter.all false
set_option maxRecDepth 100000
set_option maxHeartbeats 4000000
set_option exponentiation.threshold 100000
namespace Tx
open PySem PySem.Spec PyProof.Rows L2
open Evl (Ex Ev EvL EvU EvT EvA EvO RV ev_c ev_var ea_nil ea_cons eo_none eo_some)
open VatdfBase (Cell Table)
theorem closeRest_ne {b : Nat} {r : List Nat} {k : Nat} (h : b ≠ 34) : closeRest (b :: r) k = closeRest r (k + 1) := by
  rw [closeRest]
  · intro _ h' _; exact h h'
  · exact h
theorem closeRest_two {r : List Nat} {k : Nat} : closeRest (34 :: 34 :: r) k = closeRest r (k + 2) := by rw [closeRest]
theorem closeRest_one {r : List Nat} {k : Nat} (h : r.head? ≠ some 34) : closeRest (34 :: r) k = k := by
  rw [closeRest]
  intro r' h'
  rw [h'] at h
  exact h rfl
theorem quoted_zero (l : List Nat) : quotedRest l 0 = [] := by cases l <;> rfl
theorem quoted_ne {b : Nat} {r : List Nat} {n : Nat} (h : b ≠ 34) : quotedRest (b :: r) (n + 1) = b :: quotedRest r n := by
  rw [quotedRest]
  · intro _ _ _ h'; exact absurd h' h
  · exact h
theorem quoted_two {b : Nat} {r : List Nat} {n : Nat} : quotedRest (34 :: b :: r) (n + 2) = 34 :: quotedRest r n := by rw [quotedRest]
theorem quoted_one {r : List Nat} : quotedRest (34 :: r) 1 = [34] := by cases r <;> rfl
theorem drop_bat {t : List Nat} {k : Nat} (h : k < t.length) : t.drop k = bat t k :: t.drop (k + 1) := by
  rw [List.drop_eq_getElem_cons h]
  congr 1
  unfold bat
  rw [List.getElem?_eq_getElem h]
  rfl
theorem tw_at {q : Nat → Bool} : ∀ {l : List Nat} {i b : Nat}, i ≤ (l.takeWhile q).length → l[i]? = some b → (q b = false → (l.takeWhile q).length = i) ∧ (q b = true → i + 1 ≤ (l.takeWhile q).length)
  | [], i, b, _, h => by simp at h
  | x :: l, 0, b, _, h => by
    have e : x = b := by simpa using h
    subst e
    constructor
    · intro hq; rw [List.takeWhile_cons, if_neg (by rw [hq]; decide)]; rfl
    · intro hq; rw [List.takeWhile_cons, if_pos hq]; simp
  | x :: l, i + 1, b, h0, h => by
    have h' : l[i]? = some b := by simpa using h
    rw [List.takeWhile_cons] at h0 ⊢
    by_cases hq : q x = true
    · rw [if_pos hq] at h0 ⊢
      have := tw_at (l := l) (i := i) (b := b) (by simpa using h0) h'
      simpa using this
    · rw [if_neg hq] at h0
      simp at h0
theorem opens_at {t : List Nat} {a : Nat} (h : a < t.length) : opens t a = decide (bat t a = 34) := by
  unfold opens
  rw [bat_get h, Bool.eq_iff_iff, beq_iff_eq, decide_eq_true_eq]
  exact Option.some_inj
theorem opens_past {t : List Nat} {a : Nat} (h : ¬ a < t.length) : opens t a = false := by
  unfold opens
  rw [List.getElem?_eq_none (by omega)]
  rfl
theorem opens_lt {t : List Nat} {a : Nat} (h : opens t a = true) : a < t.length := by
  by_cases q : a < t.length
  · exact q
  · rw [opens_past q] at h; cases h
theorem head_drop (t : List Nat) (k : Nat) : (t.drop k).head? = t[k]? := by rw [List.head?_drop]
theorem closing_le {t : List Nat} {a : Nat} (h : a < t.length) : closing t a ≤ t.length := by
  unfold closing
  rcases close_spec _ (t.drop (a + 1)) (Nat.le_refl _) (a + 1) ((t.drop (a + 1)).length + 1) [] (by omega) with ⟨c, h1, h2, _, _⟩ | ⟨h1, _⟩
  · rw [h2]
    rw [List.length_drop] at h1
    omega
  · rw [h1, List.length_drop]
    omega
/-- a list of bytes -/
def isX (K : PySem.W.Frag) (t : List Nat) (v : V) (H : Hp) : Prop := ∃ a, v = .ref a ∧ SqL K H a (nV t)
theorem isX.ex {K : PySem.W.Frag} {t : List Nat} {v : V} {H H' : Hp} (e : Ex H H') (h : isX K t v H) : isX K t v H' := by
  obtain ⟨a, h1, h2⟩ := h
  exact ⟨a, h1, SqL.ex e h2⟩
section
variable {K : PySem.W.Frag} {σ : L2.St} {H : Hp} {ta tb : TE}
theorem ev_bat {a : Addr} {t : List Nat} {k : Nat} (ha : Ev ta σ H (.ref a)) (hb : Ev tb σ H (.int (k : Nat))) (h : SqL K H a (nV t)) (hk : k < t.length) : Ev (tOp (rIxL K) ta tb) σ H (.int (bat t k : Nat)) := ev_ixL ha hb h (atI_nat (nV_get (bat_get hk)))
theorem ev_lenX {a : Addr} {t : List Nat} (ha : Ev ta σ H (.ref a)) (h : SqL K H a (nV t)) : Ev (tCB (fun xs H Q => ∃ p ys, xs = [.ref p] ∧ (SqL K H p ys ∨ SqT K H p ys) ∧ Q (.int ys.length) H) (tCons ta tNil)) σ H (.int (t.length : Nat)) := ev_int (ev_lenL ha h) (by rw [nV_len])
theorem ev_nadd {a b : Nat} (ha : Ev ta σ H (.int (a : Nat))) (hb : Ev tb σ H (.int (b : Nat))) : Ev (tOp (rI0 fun i j => .int (i + j)) ta tb) σ H (.int ((a + b : Nat) : Int)) := ev_I0 ha hb
end
section
variable {P : Program} {w : World} {K : PySem.W.Frag} {mg : Str → Option Value} {base : Heap} {ad : Ads}
theorem fn_opens (T : Tops K mg ad) : Fn P w K mg base "opens" 1 ["text", "at"] (spV (A2 fun (x : List Nat × Nat) v u H => x.1.length ≤ 1000 ∧ isX K x.1 v H ∧ u = .int (x.2 : Nat)) fun x => .bl (opens x.1 x.2)) := by
  refine Fn.mk' T.f_opens sc_opens lV2 fun cdv f A outer s H E hr => ⟨_, (pss_one (ps_ret (pe_and (pe_cmpR op_lt (pv 1) (pe_callB call_len_seq (by rfl) T.b_len PySem.boot_len (pa_cons (pv 0) pa_nil)) (nomark _)) (pe_one (pe_cmpR op_eq (pe_ix ix_list (pv 0) (pv 1) (fun _ _ => rfl)) (pe_gi T.c_QUOTES) (nomark _)))))), ?_⟩
  rintro vs Q ⟨⟨t, i⟩, ⟨v, u, rfl, hz, ⟨a, rfl, ha⟩, rfl⟩, k⟩
  change SqL K H a (nV t) at ha
  by_cases h : i < t.length
  · refine Evl.s_ret (ev_bool (Evl.ev_andV (b := decide (bat t i = 34)) (ev_I0 (ev_var rfl) (ev_lenX (ev_var rfl) ha)) fun _ => ev_bool (ev_eqI (ev_bat (ev_var rfl) (ev_var rfl) ha h) ev_c) (cast_eq _ 34)) ?_) k
    show _ = opens t i
    rw [opens_at h, decide_eq_true (by show (i : Int) < (t.length : Int); omega), Bool.true_and]
  · refine Evl.s_ret (ev_bool (Evl.ev_andV (b := false) (ev_I0 (ev_var rfl) (ev_lenX (ev_var rfl) ha)) fun q => ?_) ?_) k
    · have := of_decide_eq_true q; omega
    · show _ = opens t i
      rw [opens_past h, Bool.and_false]
theorem fn_parts_cells (T : Tops K mg ad) : Fn P w K mg base "parts_cells" 1 ["byte"] (spV (A1 fun (n : Nat) v _ => v = .int n) fun n => .bl (parts n)) := by
  refine Fn.mk' T.f_parts_cells sc_parts_cells lV1 fun cdv f A outer s H E hr => ⟨_, (pss_one (ps_ret (pe_or (pe_cmpR op_eq (pv 0) (pe_gi T.c_COMMA) (nomark _)) (pe_one (pe_cmpR op_eq (pv 0) (pe_gi T.c_LINE_END) (nomark _)))))), ?_⟩
  rintro vs Q ⟨n, ⟨v, rfl, rfl⟩, k⟩
  exact Evl.s_ret (ev_bool (Evl.ev_orV (ev_eqI (ev_var rfl) ev_c) fun _ => ev_eqI (ev_var rfl) ev_c) (by unfold parts; rw [Bool.eq_iff_iff]; simp only [Bool.or_eq_true, decide_eq_true_eq, beq_iff_eq]; omega)) k
theorem fn_bare_end (T : Tops K mg ad) : Fn P w K mg base "bare_end" 2 ["text", "at"] (spV (A2 fun (x : List Nat × Nat) v u H => x.1.length ≤ 1000 ∧ isX K x.1 v H ∧ u = .int (x.2 : Nat) ∧ x.2 ≤ x.1.length) fun x => .int (bareEnd x.1 x.2 : Nat)) := by
  refine Fn.mk' T.f_bare_end sc_bare_end lV2 fun cdv f A outer s H E hr => ⟨_, (pss_cons (ps_for PassesOwn.never rfl (pi_range2 rfl T.b_range (pa_cons (pv 1) (pa_cons (pe_callB call_len_seq (by rfl) T.b_len PySem.boot_len (pa_cons (pv 0) pa_nil)) pa_nil))) (pg_name (i := 2) sc_bare_end.nd rfl (Or.inl rfl)) (pss_one (ps_if (pt_val (pe_fn (fn_parts_cells T) (hr.mono (by decide)) (pa_cons (pe_ix ix_list (pv 0) (pv 2) (fun _ _ => rfl)) pa_nil))) (pss_one (ps_ret (pv 2))) pss_nil)))
      (pss_one (ps_ret (pe_callB call_len_seq (by rfl) T.b_len PySem.boot_len (pa_cons (pv 0) pa_nil))))), ?_⟩
  rintro vs Q ⟨⟨t, i⟩, ⟨v, u, rfl, hz, ⟨a, rfl, ha⟩, rfl, hi⟩, k⟩
  change SqL K H a (nV t) at ha
  change t.length ≤ 1000 at hz
  change i ≤ t.length at hi
  change ∀ H', Ex H H' → Q (.int (bareEnd t i : Nat)) H' at k
  refine Evl.q_forR2 (lo := (i : Nat)) (n := (t.length : Nat)) (ea_cons (ev_var rfl) (ea_cons (ev_lenX (ev_var rfl) ha) ea_nil)) (by omega)
    (fun j σ' H' => Ex H H' ∧ j ≤ ((t.drop i).takeWhile fun b => !parts b).length ∧ ∃ x, σ' = [some (.ref a), some (.int (i : Nat)), x]) (fun H1 e1 => ⟨e1, Nat.zero_le _, none, rfl⟩) ?_ ?_
  · rintro j σ' H' hj ⟨e, hl, x, rfl⟩
    have hj' : i + j < t.length := by omega
    have hb : (t.drop i)[j]? = some (bat t (i + j)) := by rw [List.getElem?_drop, bat_get hj']
    have hc : ((i : Int) + (j : Int)) = ((i + j : Nat) : Int) := by omega
    rw [hc]
    refine Evl.s_when (et_val (ev_callV (bat t (i + j)) (ea_cons (ev_bat (k := i + j) (ev_var rfl) (ev_var rfl) (SqL.ex e ha) hj') ea_nil) fun _ _ => ⟨_, rfl, rfl⟩)) (fun hp H1 e1 => ?_) fun hp H1 e1 => ?_
    · refine Evl.s_ret (ev_int (ev_var rfl) ?_) fun H2 e2 => k H2 ((e.trans e1).trans e2)
      unfold bareEnd
      rw [(tw_at hl hb).1 (by rw [hp]; rfl)]
    · exact ⟨e.trans e1, (tw_at hl hb).2 (by rw [hp]; rfl), _, rfl⟩
  · rintro σ' H' ⟨e, hl, x, rfl⟩
    refine Evl.s_ret (ev_int (ev_lenX (ev_var rfl) (SqL.ex e ha)) ?_) fun H2 e2 => k H2 (e.trans e2)
    have h1 := bareEnd_le hi
    unfold bareEnd at h1 ⊢
    omega
theorem fn_closing (T : Tops K mg ad) : Fn P w K mg base "closing" 2 ["text", "at"] (spV (A2 fun (x : List Nat × Nat) v u H => x.1.length ≤ 1000 ∧ isX K x.1 v H ∧ u = .int (x.2 : Nat) ∧ x.2 < x.1.length) fun x => .int (closing x.1 x.2 : Nat)) := by
  refine Fn.mk' T.f_closing sc_closing lV2 fun cdv f A outer s H E hr => ⟨_, (pss_cons (ps_set (i := 2) sc_closing.nd rfl (Or.inl rfl) (pe_op op_add (pv 1) pe_int))
      (pss_cons (ps_while PassesOwn.never (pt_cmpR op_lt (pv 2) (pe_callB call_len_seq (by rfl) T.b_len PySem.boot_len (pa_cons (pv 0) pa_nil)) (nomark _)) (pss_one (ps_if (pt_cmpR op_ne (pe_ix ix_list (pv 0) (pv 2) (fun _ _ => rfl)) (pe_gi T.c_QUOTES) (nomark _)) (pss_one (ps_aug (i := 2) sc_closing.nd rfl (Or.inl rfl) pe_int ip_add)) (pss_one (ps_if (pt_val (pe_fn (fn_opens T) (hr.mono (by decide)) (pa_cons (pv 0) (pa_cons (pe_op op_add (pv 2) pe_int) pa_nil)))) (pss_one (ps_aug (i := 2) sc_closing.nd rfl (Or.inl rfl) pe_int ip_add)) (pss_one (ps_ret (pv 2))))))))
      (pss_one (ps_ret (pe_callB call_len_seq (by rfl) T.b_len PySem.boot_len (pa_cons (pv 0) pa_nil)))))), ?_⟩
  rintro vs Q ⟨⟨t, i⟩, ⟨v, u, rfl, hz, ⟨a, rfl, ha⟩, rfl, hi⟩, k⟩
  change SqL K H a (nV t) at ha
  change t.length ≤ 1000 at hz
  change i < t.length at hi
  change ∀ H', Ex H H' → Q (.int (closing t i : Nat)) H' at k
  refine Evl.q_asg (ev_nadd (b := 1) (ev_var rfl) ev_c) fun H1 e1 => ?_
  refine Evl.q_while (fun m σ' H' => ∃ j, m = t.length - j ∧ j ≤ t.length ∧ Ex H H' ∧ closeRest (t.drop j) j = closing t i ∧ σ' = [some (.ref a), some (.int (i : Nat)), some (.int (j : Nat))]) (t.length - (i + 1)) ⟨i + 1, rfl, by omega, e1, rfl, rfl⟩ ?_
  rintro m σ' H' ⟨j, rfl, hj, e, hc, rfl⟩
  have ha' := SqL.ex e ha
  refine ⟨_, Evl.et_test (ev_bool (ev_I0 (ev_var rfl) (ev_lenX (ev_var rfl) ha')) (cast_lt j t.length)), fun hlt H2 e2 => ?_, fun hlt H2 e2 => ?_⟩
  · rw [decide_eq_true_eq] at hlt
    have ha2 := SqL.ex e2 ha'
    rw [drop_bat hlt] at hc
    refine ⟨fun σ' H' => ∃ j', j < j' ∧ j' ≤ t.length ∧ Ex H H' ∧ closeRest (t.drop j') j' = closing t i ∧ σ' = [some (.ref a), some (.int (i : Nat)), some (.int (j' : Nat))], fun σ2 H2 ⟨j', h1, h2, h3, h4, h5⟩ => ⟨t.length - j', by omega, j', rfl, h2, h3, h4, h5⟩, ?_⟩
    refine Evl.s_if (Evl.et_test (ev_neI (ev_bat (ev_var rfl) (ev_var rfl) ha2 hlt) ev_c)) (fun hb H3 e3 => ?_) fun hb H3 e3 => ?_
    · rw [Bool.not_eq_true', decide_eq_false_iff_not] at hb
      rw [closeRest_ne (by omega)] at hc
      exact Evl.s_aug rfl ev_c fun H4 e4 => ⟨j + 1, by omega, by omega, ((e.trans e2).trans e3).trans e4, hc, rfl⟩
    · rw [Bool.not_eq_false', decide_eq_true_eq] at hb
      have hb' : bat t j = 34 := by omega
      rw [hb'] at hc
      have ha3 := SqL.ex e3 ha2
      refine Evl.s_if (et_val (ev_callV (t, j + 1) (ea_cons (ev_var rfl) (ea_cons (ev_nadd (b := 1) (ev_var rfl) ev_c) ea_nil)) fun H4 e4 => ⟨_, _, rfl, hz, ⟨a, rfl, SqL.ex e4 ha3⟩, rfl⟩)) (fun ho H4 e4 => ?_) fun ho H4 e4 => ?_
      · have hl := opens_lt ho
        change j + 1 < t.length at hl
        rw [opens_at hl, decide_eq_true_eq] at ho
        rw [drop_bat hl, ho, closeRest_two] at hc
        exact Evl.s_aug rfl ev_c fun H5 e5 => ⟨j + 2, by omega, by omega, (((e.trans e2).trans e3).trans e4).trans e5, hc, rfl⟩
      · refine Evl.s_ret (ev_int (ev_var rfl) ?_) fun H5 e5 => k H5 ((((e.trans e2).trans e3).trans e4).trans e5)
        rw [closeRest_one] at hc
        · rw [hc]
        · rw [head_drop]
          intro q
          change opens t (j + 1) = false at ho
          unfold opens at ho
          rw [q] at ho
          cases ho
  · rw [decide_eq_false_iff_not] at hlt
    refine Evl.s_ret (ev_int (ev_lenX (ev_var rfl) (SqL.ex e2 ha')) ?_) fun H3 e3 => k H3 ((e.trans e2).trans e3)
    rw [List.drop_eq_nil_of_le (by omega)] at hc
    change j = closing t i at hc
    omega
theorem fn_cell_end (T : Tops K mg ad) : Fn P w K mg base "cell_end" 3 ["text", "at"] (spV (A2 fun (x : List Nat × Nat) v u H => x.1.length ≤ 1000 ∧ isX K x.1 v H ∧ u = .int (x.2 : Nat) ∧ x.2 ≤ x.1.length) fun x => .int (cellEnd x.1 x.2 : Nat)) := by
  refine Fn.mk' T.f_cell_end sc_cell_end lV2 fun cdv f A outer s H E hr => ⟨_, (pss_cons (ps_if (pt_not (pt_val (pe_fn (fn_opens T) (hr.mono (by decide)) (pa_cons (pv 0) (pa_cons (pv 1) pa_nil))))) (pss_one (ps_ret (pe_fn (fn_bare_end T) (hr.mono (by decide)) (pa_cons (pv 0) (pa_cons (pv 1) pa_nil))))) pss_nil)
      (pss_cons (ps_set (i := 2) sc_cell_end.nd rfl (Or.inl rfl) (pe_fn (fn_closing T) (hr.mono (by decide)) (pa_cons (pv 0) (pa_cons (pv 1) pa_nil))))
      (pss_cons (ps_if (pt_cmpR op_eq (pv 2) (pe_callB call_len_seq (by rfl) T.b_len PySem.boot_len (pa_cons (pv 0) pa_nil)) (nomark _)) (pss_one (ps_ret (pv 2))) pss_nil)
      (pss_one (ps_ret (pe_fn (fn_bare_end T) (hr.mono (by decide)) (pa_cons (pv 0) (pa_cons (pe_op op_add (pv 2) pe_int) pa_nil)))))))), ?_⟩
  rintro vs Q ⟨⟨t, i⟩, ⟨v, u, rfl, hz, hv, rfl, hi⟩, k⟩
  change isX K t v H at hv
  change t.length ≤ 1000 at hz
  change i ≤ t.length at hi
  change ∀ H', Ex H H' → Q (.int (cellEnd t i : Nat)) H' at k
  obtain ⟨a, rfl, ha⟩ := hv
  refine Evl.q_when (Evl.et_not (et_val (ev_callV (t, i) (ea_cons (ev_var rfl) (ea_cons (ev_var rfl) ea_nil)) fun H1 e1 => ⟨_, _, rfl, hz, ⟨a, rfl, SqL.ex e1 ha⟩, rfl⟩))) (fun ho H1 e1 => ?_) fun ho H1 e1 => ?_
  · rw [Bool.not_eq_true'] at ho
    refine Evl.s_ret (ev_int (ev_callV (t, i) (ea_cons (ev_var rfl) (ea_cons (ev_var rfl) ea_nil)) fun H2 e2 => ⟨_, _, rfl, hz, ⟨a, rfl, SqL.ex (e1.trans e2) ha⟩, rfl, hi⟩) ?_) fun H2 e2 => k H2 (e1.trans e2)
    unfold cellEnd
    rw [show opens t i = false from ho]
    rfl
  · rw [Bool.not_eq_false'] at ho
    have hl := opens_lt ho
    change i < t.length at hl
    refine Evl.q_asg (ev_callV (t, i) (ea_cons (ev_var rfl) (ea_cons (ev_var rfl) ea_nil)) fun H2 e2 => ⟨_, _, rfl, hz, ⟨a, rfl, SqL.ex (e1.trans e2) ha⟩, rfl, hl⟩) fun H2 e2 => ?_
    have ha2 := SqL.ex (e1.trans e2) ha
    have hcl := closing_le hl
    have hce : cellEnd t i = if closing t i = t.length then t.length else bareEnd t (closing t i + 1) := by
      unfold cellEnd
      rw [if_pos ho]
    refine Evl.q_when (Evl.et_test (ev_bool (ev_eqI (ev_var rfl) (ev_lenX (ev_var rfl) ha2)) (cast_eq _ _))) (fun hc H3 e3 => ?_) fun hc H3 e3 => ?_
    · rw [decide_eq_true_eq] at hc
      refine Evl.s_ret (ev_int (ev_var rfl) ?_) fun H4 e4 => k H4 (((e1.trans e2).trans e3).trans e4)
      rw [hce, if_pos hc]
      exact congrArg _ hc
    · rw [decide_eq_false_iff_not] at hc
      change ¬ closing t i = t.length at hc
      refine Evl.s_ret (ev_int (ev_callV (t, closing t i + 1) (ea_cons (ev_var rfl) (ea_cons (ev_nadd (b := 1) (ev_var rfl) ev_c) ea_nil)) fun H4 e4 => ⟨_, _, rfl, hz, ⟨a, rfl, SqL.ex (e3.trans e4) ha2⟩, rfl, by show closing t i + 1 ≤ t.length; omega⟩) ?_) fun H4 e4 => k H4 (((e1.trans e2).trans e3).trans e4)
      rw [hce, if_neg hc]
theorem fn_goes_on (T : Tops K mg ad) : Fn P w K mg base "goes_on" 1 ["text", "end"] (spV (A2 fun (x : List Nat × Nat) v u H => x.1.length ≤ 1000 ∧ isX K x.1 v H ∧ u = .int (x.2 : Nat) ∧ x.2 ≤ x.1.length) fun x => .bl (goesOn x.1 x.2)) := by
  refine Fn.mk' T.f_goes_on sc_goes_on lV2 fun cdv f A outer s H E hr => ⟨_, (pss_cons (ps_if (pt_cmpR op_eq (pv 1) (pe_callB call_len_seq (by rfl) T.b_len PySem.boot_len (pa_cons (pv 0) pa_nil)) (nomark _)) (pss_one (ps_ret pe_bl)) pss_nil)
      (pss_one (ps_ret (pe_or (pe_cmpR op_eq (pe_ix ix_list (pv 0) (pv 1) (fun _ _ => rfl)) (pe_gi T.c_COMMA) (nomark _)) (pe_one (pe_cmpR op_lt (pe_op op_add (pv 1) pe_int) (pe_callB call_len_seq (by rfl) T.b_len PySem.boot_len (pa_cons (pv 0) pa_nil)) (nomark _))))))), ?_⟩
  rintro vs Q ⟨⟨t, i⟩, ⟨v, u, rfl, hz, hv, rfl, hi⟩, k⟩
  change isX K t v H at hv
  change i ≤ t.length at hi
  change ∀ H', Ex H H' → Q (.bl (goesOn t i)) H' at k
  obtain ⟨a, rfl, ha⟩ := hv
  refine Evl.q_when (Evl.et_test (ev_bool (ev_eqI (ev_var rfl) (ev_lenX (ev_var rfl) ha)) (cast_eq _ _))) (fun hc H1 e1 => ?_) fun hc H1 e1 => ?_
  · rw [decide_eq_true_eq] at hc
    refine Evl.s_ret (ev_bool ev_c ?_) fun H2 e2 => k H2 (e1.trans e2)
    unfold goesOn
    rw [decide_eq_false (by omega)]
    rfl
  · rw [decide_eq_false_iff_not] at hc
    have hl : i < t.length := by omega
    have ha1 := SqL.ex e1 ha
    refine Evl.s_ret (ev_bool (Evl.ev_orV (ev_bool (ev_eqI (ev_bat (ev_var rfl) (ev_var rfl) ha1 hl) ev_c) (cast_eq _ 44)) fun _ => ev_bool (ev_I0 (ev_nadd (b := 1) (ev_var rfl) ev_c) (ev_lenX (ev_var rfl) ha1)) (cast_lt _ _)) ?_) fun H2 e2 => k H2 (e1.trans e2)
    unfold goesOn
    change ¬ i = t.length at hc
    rw [decide_eq_true hc, Bool.true_and, bat_get hl]
    show (decide (bat t i = 44) || _) = _
    congr 1
theorem fn_starts (T : Tops K mg ad) : Fn P w K mg base "starts" 4 ["text"] (spL (A1 fun (t : List Nat) v H => t.length ≤ 1000 ∧ isX K t v H) fun t => nV (starts t)) := by
  refine Fn.mk' T.f_starts sc_starts lN1 fun cdv f A outer s H E hr => ⟨_, (pss_cons (ps_set (i := 1) sc_starts.nd rfl (Or.inl rfl) (pe_lst (pa_cons pe_int pa_nil)))
      (pss_cons (ps_set (i := 2) sc_starts.nd rfl (Or.inl rfl) (pe_fn (fn_cell_end T) (hr.mono (by decide)) (pa_cons (pv 0) (pa_cons pe_int pa_nil))))
      (pss_cons (ps_while PassesOwn.never (pt_val (pe_fn (fn_goes_on T) (hr.mono (by decide)) (pa_cons (pv 0) (pa_cons (pv 2) pa_nil)))) (pss_cons (ps_expr (pe_bm PySem.F.plainAttrs_list PySem.F.slot_list_append PySem.F.type_list_append mt_append (pv 1) (pa_cons (pe_op op_add (pv 2) pe_int) pa_nil)))
      (pss_one (ps_set (i := 2) sc_starts.nd rfl (Or.inl rfl) (pe_fn (fn_cell_end T) (hr.mono (by decide)) (pa_cons (pv 0) (pa_cons (pe_op op_add (pv 2) pe_int) pa_nil)))))))
      (pss_one (ps_ret (pv 1)))))), ?_⟩
  rintro vs Q ⟨t, ⟨v, rfl, hz, a, rfl, ha⟩, k⟩
  refine Evl.q_asgL (Evl.el_lst (ea_cons (ev_c (v := .int 0)) ea_nil) (by show 1 ≤ _; decide)) fun p H1 np e1 hp => ?_
  refine Evl.q_asg (ev_callV (t, 0) (ea_cons (ev_var rfl) (ea_cons ev_c ea_nil)) fun H2 e2 => ⟨_, _, rfl, hz, ⟨a, rfl, SqL.ex (e1.trans e2) ha⟩, rfl, Nat.zero_le _⟩) fun H2 e2 => ?_
  refine Evl.q_while (fun m σ' H' => ∃ done i, done.length + m = t.length ∧ t.length ≤ m + i ∧ i ≤ t.length ∧ Ex H H' ∧ done ++ startsF t m i = starts t ∧ H' p = some (.lst (nV (done ++ [i]))) ∧ σ' = [some (.ref a), some (.ref p), some (.int (cellEnd t i : Nat))]) t.length ⟨[], 0, by simp, by omega, by omega, e1.trans e2, rfl, e2 _ _ hp, rfl⟩ ?_
  rintro m σ' H' ⟨done, i, hd, hm, hi, e, hs, hp', rfl⟩
  have hce := cellEnd_le hi
  have hcg := cellEnd_ge hi
  refine ⟨_, et_val (ev_callV (t, cellEnd t i) (ea_cons (ev_var rfl) (ea_cons (ev_var rfl) ea_nil)) fun H2 e2 => ⟨_, _, rfl, hz, ⟨a, rfl, SqL.ex (e.trans e2) ha⟩, rfl, hce⟩), fun hg H3 e3 => ?_, fun hg H3 e3 => ?_⟩
  · change goesOn t (cellEnd t i) = true at hg
    have hlt : cellEnd t i < t.length := by
      unfold goesOn at hg
      rw [Bool.and_eq_true, decide_eq_true_eq] at hg
      omega
    obtain ⟨m', rfl⟩ : ∃ m', m = m' + 1 := ⟨m - 1, by omega⟩
    have hs2 : (done ++ [i]) ++ startsF t m' (cellEnd t i + 1) = starts t := by
      rw [← hs]
      show _ = done ++ (i :: if goesOn t (cellEnd t i) = true then startsF t m' (cellEnd t i + 1) else [])
      rw [if_pos hg]
      simp
    refine ⟨fun σ' H' => ∃ done i, done.length + m' = t.length ∧ t.length ≤ m' + i ∧ i ≤ t.length ∧ Ex H H' ∧ done ++ startsF t m' i = starts t ∧ H' p = some (.lst (nV (done ++ [i]))) ∧ σ' = [some (.ref a), some (.ref p), some (.int (cellEnd t i : Nat))], fun σ2 H2 h => ⟨m', by omega, h⟩, ?_⟩
    refine Evl.q_app (e3 _ _ hp') (ev_var rfl) (ev_nadd (b := 1) (ev_var rfl) ev_c) (by rw [nV_len, List.length_append, List.length_singleton]; omega) fun H4 e4 => ?_
    have e14 := Ex.mut (o := .lst (nV (done ++ [i]) ++ [.int ((cellEnd t i + 1 : Nat) : Int)])) ((e.trans e3).trans e4) np
    refine Evl.s_asg (ev_callV (t, cellEnd t i + 1) (ea_cons (ev_var rfl) (ea_cons (ev_nadd (b := 1) (ev_var rfl) ev_c) ea_nil)) fun H5 e5 => ⟨_, _, rfl, hz, ⟨a, rfl, SqL.ex (e14.trans e5) ha⟩, rfl, hlt⟩) fun H5 e5 => ?_
    refine ⟨done ++ [i], cellEnd t i + 1, by rw [List.length_append, List.length_singleton]; omega, by omega, by omega, e14.trans e5, hs2, ?_, rfl⟩
    refine (e5 _ _ upd_same).trans ?_
    rw [nV_append (done ++ [i])]
    rfl
  · change goesOn t (cellEnd t i) = false at hg
    refine Evl.s_ret (ev_var rfl) fun H4 e4 => k p H4 np ((e.trans e3).trans e4) ((e3.trans e4 _ _ hp').trans ?_)
    show _ = some (HO.lst (nV (starts t)))
    rw [← hs]
    cases m with
    | zero => rfl
    | succ m =>
      show _ = some (HO.lst (nV (done ++ (i :: if goesOn t (cellEnd t i) = true then startsF t m (cellEnd t i + 1) else []))))
      rw [hg]
      rfl
end
end Tx
end

section
set_option Elab.async false
set_option linter.all false
set_option maxRecDepth 100000
set_option maxHeartbeats 4000000
set_option exponentiation.threshold 100000
namespace Tx
open PySem PySem.Spec PyProof.Rows L2
open Evl (Ex Ev EvL EvU EvT EvA EvO RV ev_c ev_var ea_nil ea_cons eo_none eo_some)
open VatdfBase (Cell Table)
def pieF (x y z : V) : List (Str × V) := [("place", x), ("said", y), ("quoted", z)]
def pieA : List V → List (Str × V)
  | [x, y, z] => pieF x y z
  | _ => []
theorem pie_place {x y z : V} : (pieF x y z).lookup ("place" : Str) = some x := lk_here
theorem pie_said {x y z : V} : (pieF x y z).lookup ("said" : Str) = some y := (lk_past (by decide +kernel)).trans lk_here
theorem pie_quoted {x y z : V} : (pieF x y z).lookup ("quoted" : Str) = some z := (lk_past (by decide +kernel)).trans ((lk_past (by decide +kernel)).trans lk_here)
/-- a piece -/
def isPi (K : PySem.W.Frag) (ad : Ads) (H : Hp) (v : V) (r : Vatdfa.Raw) : Prop := ∃ p dx b, v = .ref p ∧ H p = some (.ins ad.Piece dx (pieF (.int (r.place : Nat)) (.ref b) (.bl r.quoted))) ∧ SqT K H b (nV r.bytes)
theorem isPi.ex {K : PySem.W.Frag} {ad : Ads} {H H' : Hp} {v : V} {r : Vatdfa.Raw} (e : Ex H H') (h : isPi K ad H v r) : isPi K ad H' v r := by
  obtain ⟨p, dx, b, h1, h2, h3⟩ := h
  exact ⟨p, dx, b, h1, e _ _ h2, SqT.ex e h3⟩
theorem isPi.upd {K : PySem.W.Frag} {ad : Ads} {H : Hp} {v : V} {r : Vatdfa.Raw} {q : Addr} {xs ys : List V} (h : isPi K ad H v r) (hq : H q = some (.lst xs)) : isPi K ad (upd H q (.lst ys)) v r := by
  obtain ⟨p, dx, b, h1, h2, h3⟩ := h
  exact ⟨p, dx, b, h1, by rw [upd_ne (ne_of h2 hq (by intro z; cases z))]; exact h2, sqT_upd hq h3⟩
/-- a line of pieces -/
def isLn (K : PySem.W.Frag) (ad : Ads) (H : Hp) (v : V) (l : List Vatdfa.Raw) : Prop := ∃ q ys, v = .ref q ∧ H q = some (.lst ys) ∧ Paired (isPi K ad H) ys l
theorem isLn.ex {K : PySem.W.Frag} {ad : Ads} {H H' : Hp} {v : V} {l : List Vatdfa.Raw} (e : Ex H H') (h : isLn K ad H v l) : isLn K ad H' v l := by
  obtain ⟨q, ys, h1, h2, h3⟩ := h
  exact ⟨q, ys, h1, e _ _ h2, paired_mono h3 fun _ _ => isPi.ex e⟩
theorem starts_le (t : List Nat) : ∀ (f a : Nat), a ≤ t.length → (∀ x ∈ startsF t f a, x ≤ t.length) ∧ (startsF t f a).length ≤ f + 1
  | 0, a, h => ⟨fun x hx => by rw [List.mem_singleton.mp hx]; exact h, Nat.le_refl _⟩
  | f + 1, a, h => by
    have hs : startsF t (f + 1) a = a :: if goesOn t (cellEnd t a) = true then startsF t f (cellEnd t a + 1) else [] := rfl
    rw [hs]
    by_cases hg : goesOn t (cellEnd t a) = true
    · rw [if_pos hg]
      have hlt : cellEnd t a < t.length := by
        have := cellEnd_le h
        unfold goesOn at hg
        rw [Bool.and_eq_true, decide_eq_true_eq] at hg
        omega
      have ih := starts_le t f (cellEnd t a + 1) hlt
      refine ⟨fun x hx => ?_, by rw [List.length_cons]; have := ih.2; omega⟩
      rcases List.mem_cons.mp hx with rfl | hx
      · exact h
      · exact ih.1 x hx
    · rw [if_neg hg]
      exact ⟨fun x hx => by rw [List.mem_singleton.mp hx]; exact h, by simp⟩
theorem starts_head (t : List Nat) : (starts t)[0]? = some 0 := by
  unfold starts
  cases t.length <;> rfl
section
variable {P : Program} {w : World} {K : PySem.W.Frag} {mg : Str → Option Value} {base : Heap} {ad : Ads}
theorem in_Piece (T : Tops K mg ad) : Ini P w K mg base "Piece" ad.Piece 1 ["self", "place", "said", "quoted"] (spIni ad.Piece 3 pieA) := by
  refine Ini.mk' T.i_Piece sc_Piece_init lIni fun cdv f A outer s H E hr => ⟨_, (pss_cons (ps_fld (pv 0) (pv 1) rfl)
      (pss_cons (ps_fld (pv 0) (pv 2) rfl)
      (pss_one (ps_fld (pv 0) (pv 3) rfl)))), ?_⟩
  rintro vs Q ⟨p, dx, args, rfl, hl, hp, k⟩
  match args, hl with
  | [x, y, z], _ =>
    refine ⟨_, rfl, _, rfl, p, ad.Piece, dx, [], rfl, hp, T.k_Piece, T.a_Piece_place, (by show 0 < 1000; decide), ?_⟩
    refine ⟨_, rfl, _, rfl, p, ad.Piece, dx, _, rfl, upd_same, T.k_Piece, T.a_Piece_said, (by show 1 < 1000; decide), ?_⟩
    refine ⟨_, rfl, _, rfl, p, ad.Piece, dx, _, rfl, upd_same, T.k_Piece, T.a_Piece_quoted, (by show 2 < 1000; decide), ?_⟩
    refine k _ (upd_same.trans ?_) fun b o e hb => by rw [upd_ne hb, upd_ne hb, upd_ne hb]; exact e
    rw [put_nil, put_past (by decide +kernel), put_nil, put_past (by decide +kernel), put_past (by decide +kernel), put_nil]
    rfl
theorem fn_quoted_bytes (T : Tops K mg ad) : Fn P w K mg base "quoted_bytes" 1 ["text", "at", "close"] (spP (A3 fun (x : List Nat × Nat × Nat) v u s H => x.1.length ≤ 1000 ∧ isX K x.1 v H ∧ u = .int (x.2.1 : Nat) ∧ s = .int (x.2.2 : Nat) ∧ x.2.1 < x.1.length ∧ x.2.2 ≤ x.1.length) fun x v H => isB K (quotedBytes x.1 x.2.1 x.2.2) v H) := by
  refine Fn.mk' T.f_quoted_bytes sc_quoted_bytes lP3 fun cdv f A outer s H E hr => ⟨_, (pss_cons (ps_set (i := 3) sc_quoted_bytes.nd rfl (Or.inl rfl) (pe_lst pa_nil))
      (pss_cons (ps_set (i := 4) sc_quoted_bytes.nd rfl (Or.inl rfl) (pe_op op_add (pv 1) pe_int))
      (pss_cons (ps_while PassesOwn.never (pt_cmpR op_lt (pv 4) (pv 2) (nomark _)) (pss_cons (ps_expr (pe_bm PySem.F.plainAttrs_list PySem.F.slot_list_append PySem.F.type_list_append mt_append (pv 3) (pa_cons (pe_ix ix_list (pv 0) (pv 4) (fun _ _ => rfl)) pa_nil)))
      (pss_one (ps_if (pt_cmpR op_eq (pe_ix ix_list (pv 0) (pv 4) (fun _ _ => rfl)) (pe_gi T.c_QUOTES) (nomark _)) (pss_one (ps_aug (i := 4) sc_quoted_bytes.nd rfl (Or.inl rfl) pe_int ip_add)) (pss_one (ps_aug (i := 4) sc_quoted_bytes.nd rfl (Or.inl rfl) pe_int ip_add))))))
      (pss_one (ps_ret (pe_callTy call_tuple_of (by rfl) T.b_tuple (by decide +kernel) (pa_cons (pv 3) pa_nil))))))), ?_⟩
  rintro vs Q ⟨⟨t, i, c⟩, ⟨v, u, s, rfl, hz, ⟨a, rfl, ha⟩, rfl, rfl, hi, hc⟩, k⟩
  change SqL K H a (nV t) at ha
  change t.length ≤ 1000 at hz
  change i < t.length at hi
  change c ≤ t.length at hc
  change ∀ v H', Ex H H' → isB K (quotedBytes t i c) v H' → Q v H' at k
  refine Evl.q_asgL (Evl.el_lst ea_nil (Nat.zero_le _)) fun p H1 np e1 hp => ?_
  refine Evl.q_asg (ev_nadd (b := 1) (ev_var rfl) ev_c) fun H2 e2 => ?_
  refine Evl.q_while (fun m σ' H' => ∃ done j, m = c - j ∧ done.length ≤ j ∧ Ex H H' ∧ done ++ quotedRest (t.drop j) (c - j) = quotedBytes t i c ∧ H' p = some (.lst (nV done)) ∧ σ' = [some (.ref a), some (.int (i : Nat)), some (.int (c : Nat)), some (.ref p), some (.int (j : Nat))]) (c - (i + 1)) ⟨[], i + 1, rfl, Nat.zero_le _, e1.trans e2, rfl, e2 _ _ hp, rfl⟩ ?_
  rintro m σ' H' ⟨done, j, rfl, hd, e, hq, hp', rfl⟩
  have ha' := SqL.ex e ha
  refine ⟨_, Evl.et_test (ev_bool (ev_I0 (ev_var rfl) (ev_var rfl)) (cast_lt j c)), fun hlt H3 e3 => ?_, fun hlt H3 e3 => ?_⟩
  · rw [decide_eq_true_eq] at hlt
    have hjt : j < t.length := by omega
    refine ⟨fun σ' H' => ∃ done j', j < j' ∧ done.length ≤ j' ∧ Ex H H' ∧ done ++ quotedRest (t.drop j') (c - j') = quotedBytes t i c ∧ H' p = some (.lst (nV done)) ∧ σ' = [some (.ref a), some (.int (i : Nat)), some (.int (c : Nat)), some (.ref p), some (.int (j' : Nat))], fun σ2 H2 ⟨d, j', h1, h2⟩ => ⟨c - j', by omega, d, j', rfl, h2⟩, ?_⟩
    refine Evl.q_app (e3 _ _ hp') (ev_var rfl) (ev_bat (ev_var rfl) (ev_var rfl) (SqL.ex e3 ha') hjt) (by rw [nV_len]; omega) fun H4 e4 => ?_
    have e14 := Ex.mut (o := .lst (nV done ++ [.int ((bat t j : Nat) : Int)])) ((e.trans e3).trans e4) np
    have hp4 : (upd H4 p (.lst (nV done ++ [.int ((bat t j : Nat) : Int)]))) p = some (.lst (nV (done ++ [bat t j]))) := by
      rw [upd_same, nV_append]
      rfl
    rw [drop_bat hjt] at hq
    refine Evl.s_if (Evl.et_test (ev_bool (ev_eqI (ev_bat (ev_var rfl) (ev_var rfl) (SqL.ex e14 ha) hjt) ev_c) (cast_eq _ 34))) (fun hb H5 e5 => ?_) fun hb H5 e5 => ?_
    · rw [decide_eq_true_eq] at hb
      refine Evl.s_aug rfl ev_c fun H6 e6 => ⟨done ++ [bat t j], j + 2, by omega, by rw [List.length_append, List.length_singleton]; omega, (e14.trans e5).trans e6, ?_, (e5.trans e6) _ _ hp4, rfl⟩
      rw [← hq, List.append_assoc, hb]
      congr 1
      by_cases h2 : j + 1 < c
      · rw [drop_bat (show j + 1 < t.length by omega), show c - j = (c - (j + 2)) + 2 by omega, quoted_two]
        rfl
      · rw [show c - (j + 2) = 0 by omega, show c - j = 1 by omega, quoted_zero, quoted_one]
        rfl
    · rw [decide_eq_false_iff_not] at hb
      refine Evl.s_aug rfl ev_c fun H6 e6 => ⟨done ++ [bat t j], j + 1, by omega, by rw [List.length_append, List.length_singleton]; omega, (e14.trans e5).trans e6, ?_, (e5.trans e6) _ _ hp4, rfl⟩
      rw [← hq, List.append_assoc, show c - j = (c - (j + 1)) + 1 by omega, quoted_ne hb]
      rfl
  · rw [decide_eq_false_iff_not] at hlt
    rw [show c - j = 0 by omega, quoted_zero, List.append_nil] at hq
    subst hq
    exact Evl.s_retU (evu_tupleV (ev_var rfl) (SqL.of (e3 _ _ hp'))) fun q H4 nq e4 hq => k _ H4 ((e.trans e3).trans e4) ⟨q, rfl, SqT.of hq⟩
theorem fn_piece_at (T : Tops K mg ad) : Fn P w K mg base "piece_at" 3 ["text", "at"] (spN (A2 fun (x : List Nat × Nat) v u H => x.1.length ≤ 1000 ∧ isX K x.1 v H ∧ u = .int (x.2 : Nat) ∧ x.2 ≤ x.1.length) fun x p H => isPi K ad H (.ref p) (pieceAt x.1 x.2)) := by
  refine Fn.mk' T.f_piece_at sc_piece_at lN2 fun cdv f A outer s H E hr => ⟨_, (pss_cons (ps_if (pt_val (pe_fn (fn_opens T) (hr.mono (by decide)) (pa_cons (pv 0) (pa_cons (pv 1) pa_nil)))) (pss_one (ps_ret (pe_new (in_Piece T) (hr.mono (by decide)) (pa_cons (pv 1) (pa_cons (pe_fn (fn_quoted_bytes T) (hr.mono (by decide)) (pa_cons (pv 0) (pa_cons (pv 1) (pa_cons (pe_fn (fn_closing T) (hr.mono (by decide)) (pa_cons (pv 0) (pa_cons (pv 1) pa_nil))) pa_nil)))) (pa_cons pe_bl pa_nil)))))) pss_nil)
      (pss_one (ps_ret (pe_new (in_Piece T) (hr.mono (by decide)) (pa_cons (pv 1) (pa_cons (pe_callTy call_tuple_of (by rfl) T.b_tuple (by decide +kernel) (pa_cons (pe_slice sl_list (pv 0) (po_some (pv 1)) (po_some (pe_fn (fn_bare_end T) (hr.mono (by decide)) (pa_cons (pv 0) (pa_cons (pv 1) pa_nil))))) pa_nil)) (pa_cons pe_bl pa_nil))))))), ?_⟩
  rintro vs Q ⟨⟨t, i⟩, ⟨v, u, rfl, hz, hv, rfl, hi⟩, k⟩
  change isX K t v H at hv
  change t.length ≤ 1000 at hz
  change i ≤ t.length at hi
  change ∀ p H', H p = none → Ex H H' → isPi K ad H' (.ref p) (pieceAt t i) → Q (.ref p) H' at k
  obtain ⟨a, rfl, ha⟩ := hv
  have fin : ∀ (te : TE) (σ : L2.St) (H' : Hp) (u : List Nat) (b : Bool), Ex H H' → σ[1]? = some (some (.int (i : Nat))) → EvP te σ H' (fun v H2 => isB K u v H2) → pieceAt t i = ⟨i, u, b⟩ → tRet (tMake ad.Piece (spIni ad.Piece 3 pieA) [] E0 (tCons (tVar 1) (tCons te (tCons (tC (.bl b)) tNil)))) { nx := fun _ H' => Q .non H', rt := Q } σ H' := by
    intro te σ H' u b e h1 hu hpc
    have hap : EvAP (tCons (tVar 1) (tCons te (tCons (tC (.bl b)) tNil))) σ H' (fun vs H2 => ∃ x, vs = [.int (i : Nat), .ref x, .bl b] ∧ SqT K H2 x (nV u)) := fun H1 e1 Q q =>
      ev_var h1 H1 e1 _ fun H2 e2 => hu H2 (e1.trans e2) _ fun v H3 e3 ⟨x, hx, hs⟩ => by
        subst hx
        exact ev_c (H := H3) H3 (Ex.refl H3) _ fun H4 e4 => q _ H4 ((e2.trans e3).trans e4) ⟨x, rfl, SqT.ex e4 hs⟩
    refine s_retF (evf_newP hap (fun _ _ _ e ⟨x, h1, h2⟩ => ⟨x, h1, SqT.ex e h2⟩) fun _ _ ⟨_, h, _⟩ => by rw [h]; rfl) fun p H1 np e1 hfin => ?_
    obtain ⟨dx, args, ⟨x, h9, hx⟩, hp⟩ := hfin
    subst h9
    refine k p H1 (Evl.fresh_back e np) (e.trans e1) ?_
    rw [hpc]
    exact ⟨p, dx, x, rfl, hp, hx⟩
  refine Evl.q_when (et_val (ev_callV (t, i) (ea_cons (ev_var rfl) (ea_cons (ev_var rfl) ea_nil)) fun H1 e1 => ⟨_, _, rfl, hz, ⟨a, rfl, SqL.ex e1 ha⟩, rfl⟩)) (fun ho H1 e1 => ?_) fun ho H1 e1 => ?_
  · change opens t i = true at ho
    have hl := opens_lt ho
    refine fin _ _ _ _ true e1 rfl (evp_callP (t, i, closing t i) (ea_cons (ev_var rfl) (ea_cons (ev_var rfl) (ea_cons (ev_callV (t, i) (ea_cons (ev_var rfl) (ea_cons (ev_var rfl) ea_nil)) fun H2 e2 => ⟨_, _, rfl, hz, ⟨a, rfl, SqL.ex (e1.trans e2) ha⟩, rfl, hl⟩) ea_nil))) fun H2 e2 => ⟨_, _, _, rfl, hz, ⟨a, rfl, SqL.ex (e1.trans e2) ha⟩, rfl, rfl, hl, closing_le hl⟩) ?_
    unfold pieceAt
    rw [if_pos ho]
  · change opens t i = false at ho
    refine fin _ _ _ ((t.drop i).take (bareEnd t i - i)) false e1 rfl ((evp_F (evf_U (evu_tuple (evl_is (evl_sl (ev_var rfl) (eo_some (ev_var rfl)) (eo_some (ev_callV (t, i) (ea_cons (ev_var rfl) (ea_cons (ev_var rfl) ea_nil)) fun H2 e2 => ⟨_, _, rfl, hz, ⟨a, rfl, SqL.ex (e1.trans e2) ha⟩, rfl, hi⟩)) (SqL.ex e1 ha)) ?_)))).imp fun v H2 e2 ⟨q, h1, h2⟩ => ⟨q, h1, SqT.of h2⟩) ?_
    · rw [cut_fromTo (by rw [nV_len]; exact hi) (by rw [nV_len]; exact bareEnd_le hi)]
      unfold nV nI
      rw [← List.map_drop, ← List.map_take, ← List.map_drop, ← List.map_take]
    · unfold pieceAt
      rw [if_neg (by rw [ho]; decide)]
end
/-! ### lines being made: the last one is open -/
def Old (K : PySem.W.Frag) (ad : Ads) (p q : Addr) (H' : Hp) (v : V) (l : List Vatdfa.Raw) : Prop := ∃ q' ys, v = .ref q' ∧ q' ≠ q ∧ q' ≠ p ∧ H' q' = some (.lst ys) ∧ Paired (isPi K ad H') ys l
def Lo (K : PySem.W.Frag) (ad : Ads) (H : Hp) (p sp : Addr) (n : Nat) (ls : List (List Vatdfa.Raw)) (H' : Hp) : Prop := ∃ vs q ys D l, ls = D ++ [l] ∧ H' p = some (.lst (vs ++ [.ref q])) ∧ H q = none ∧ q ≠ p ∧ q ≠ sp ∧ H' q = some (.lst ys) ∧ vs.length ≤ n ∧ ys.length ≤ n ∧
  Paired (Old K ad p q H') vs D ∧ Paired (isPi K ad H') ys l
def LoS (K : PySem.W.Frag) (ad : Ads) (H : Hp) (p sp : Addr) (n : Nat) (ls : List (List Vatdfa.Raw)) (H' : Hp) : Prop := (ls = [] ∧ H' p = some (.lst [])) ∨ Lo K ad H p sp n ls H'
section
variable {K : PySem.W.Frag} {ad : Ads} {H H' : Hp} {p sp : Addr} {n : Nat} {ls : List (List Vatdfa.Raw)}
theorem Lo.ex (e : Ex H' H2) (h : Lo K ad H p sp n ls H') : Lo K ad H p sp n ls H2 := by
  obtain ⟨vs, q, ys, D, l, h1, h2, h3, h4, h5, h6, h7, h8, h9, h10⟩ := h
  exact ⟨vs, q, ys, D, l, h1, e _ _ h2, h3, h4, h5, e _ _ h6, h7, h8, paired_mono h9 fun _ _ ⟨q', zs, a1, a2, a3, a4, a5⟩ => ⟨q', zs, a1, a2, a3, e _ _ a4, paired_mono a5 fun _ _ => isPi.ex e⟩, paired_mono h10 fun _ _ => isPi.ex e⟩
theorem LoS.ex (e : Ex H' H2) (h : LoS K ad H p sp n ls H') : LoS K ad H p sp n ls H2 := by
  rcases h with ⟨h1, h2⟩ | h
  · exact .inl ⟨h1, e _ _ h2⟩
  · exact .inr (h.ex e)
theorem LoS.new (h : LoS K ad H p sp n ls H') (hsp : sp ≠ p) (hs : H' sp = some o) (ex : Ex H H') : ∃ xs, H' p = some (.lst xs) ∧ xs.length ≤ n + 1 ∧ ∀ q2 H3, Ex H' H3 → H' q2 = none → H3 q2 = some (.lst []) → Lo K ad H p sp (n + 1) (ls ++ [[]]) (upd H3 p (.lst (xs ++ [.ref q2]))) := by
  rcases h with ⟨rfl, h2⟩ | ⟨vs, q, ys, D, l, rfl, h2, h3, h4, h5, h6, h7, h8, h9, h10⟩
  · refine ⟨[], h2, Nat.zero_le _, fun q2 H3 e n2 h3 => ?_⟩
    have n2p := (ne_of_none h2 n2).symm
    exact ⟨[], q2, [], [], [], rfl, upd_same, Evl.fresh_back ex n2, n2p, (ne_of_none hs n2).symm, by rw [upd_ne n2p]; exact h3, Nat.zero_le _, Nat.zero_le _, .nil, .nil⟩
  · refine ⟨_, h2, by rw [List.length_append, List.length_singleton]; omega, fun q2 H3 e n2 h3' => ?_⟩
    have n2p := (ne_of_none h2 n2).symm
    refine ⟨vs ++ [.ref q], q2, [], D ++ [l], [], rfl, upd_same, Evl.fresh_back ex n2, n2p, (ne_of_none hs n2).symm, by rw [upd_ne n2p]; exact h3', by rw [List.length_append, List.length_singleton]; omega, Nat.zero_le _, ?_, .nil⟩
    refine Paired.snoc (paired_mono h9 fun _ _ ⟨q', zs, a1, a2, a3, a4, a5⟩ => ⟨q', zs, a1, ne_of_none a4 n2, a3, by rw [upd_ne a3]; exact e _ _ a4, paired_mono a5 fun _ _ z => (z.ex e).upd (e _ _ h2)⟩) ⟨q, ys, rfl, ne_of_none h6 n2, h4, by rw [upd_ne h4]; exact e _ _ h6, paired_mono h10 fun _ _ z => (z.ex e).upd (e _ _ h2)⟩
theorem Lo.add (h : Lo K ad H p sp n ls H') : ∃ xs q ys, H' p = some (.lst xs) ∧ atI xs (-1) = some (.ref q) ∧ H' q = some (.lst ys) ∧ ys.length ≤ n ∧ q ≠ p ∧ q ≠ sp ∧ H q = none ∧ ∀ v r H3, Ex H' H3 → isPi K ad H3 v r → Lo K ad H p sp (n + 1) (addLast ls r) (upd H3 q (.lst (ys ++ [v]))) := by
  obtain ⟨vs, q, ys, D, l, rfl, h2, h3, h4, h5, h6, h7, h8, h9, h10⟩ := h
  refine ⟨_, q, ys, h2, atI_last _ _, h6, h8, h4, h5, h3, fun v r H3 e hv => ?_⟩
  refine ⟨vs, q, ys ++ [v], D, l ++ [r], addLast_snoc _ _ _, by rw [upd_ne h4.symm]; exact e _ _ h2, h3, h4, h5, upd_same, by omega, by rw [List.length_append, List.length_singleton]; omega, ?_, ?_⟩
  · exact paired_mono h9 fun _ _ ⟨q', zs, a1, a2, a3, a4, a5⟩ => ⟨q', zs, a1, a2, a3, by rw [upd_ne a2]; exact e _ _ a4, paired_mono a5 fun _ _ z => (z.ex e).upd (e _ _ h6)⟩
  · exact Paired.snoc (paired_mono h10 fun _ _ z => (z.ex e).upd (e _ _ h6)) (hv.upd (e _ _ h6))
theorem Lo.end (h : Lo K ad H p sp n ls H') : ∃ vs, H' p = some (.lst vs) ∧ Paired (isLn K ad H') vs ls := by
  obtain ⟨vs, q, ys, D, l, rfl, h2, h3, h4, h5, h6, h7, h8, h9, h10⟩ := h
  exact ⟨_, h2, Paired.snoc (paired_mono h9 fun _ _ ⟨q', zs, a1, a2, a3, a4, a5⟩ => ⟨q', zs, a1, a4, a5⟩) ⟨q, ys, rfl, h6, h10⟩⟩
theorem Lo.more (h : Lo K ad H p sp n ls H') {m : Nat} (hm : n ≤ m) : Lo K ad H p sp m ls H' := by
  obtain ⟨vs, q, ys, D, l, h1, h2, h3, h4, h5, h6, h7, h8, h9⟩ := h
  exact ⟨vs, q, ys, D, l, h1, h2, h3, h4, h5, h6, by omega, by omega, h9⟩
end
section
variable {P : Program} {w : World} {K : PySem.W.Frag} {mg : Str → Option Value} {base : Heap} {ad : Ads}
theorem fn_lines_of (T : Tops K mg ad) : Fn P w K mg base "lines_of" 5 ["text"] (spN (A1 fun (t : List Nat) v H => t.length ≤ 1000 ∧ isX K t v H) fun t p H => ∃ vs, H p = some (.lst vs) ∧ Paired (isLn K ad H) vs (linesOf t)) := by
  refine Fn.mk' T.f_lines_of sc_lines_of lN1 fun cdv f A outer s H E hr => ⟨_, (pss_cons (ps_set (i := 1) sc_lines_of.nd rfl (Or.inl rfl) (pe_lst pa_nil))
      (pss_cons (ps_for PassesOwn.never rfl (pi_list (pe_fn (fn_starts T) (hr.mono (by decide)) (pa_cons (pv 0) pa_nil))) (pg_name (i := 2) sc_lines_of.nd rfl (Or.inl rfl)) (pss_cons (ps_if (PW.pt (pw_or (pt_cmpR op_eq (pv 2) pe_int (nomark _)) (pw_or1 (pt_cmpR op_eq (pe_ix ix_list (pv 0) (pe_op op_sub (pv 2) pe_int) (fun _ _ => rfl)) (pe_gi T.c_LINE_END) (nomark _))))) (pss_one (ps_expr (pe_bm PySem.F.plainAttrs_list PySem.F.slot_list_append PySem.F.type_list_append mt_append (pv 1) (pa_cons (pe_lst pa_nil) pa_nil)))) pss_nil)
      (pss_one (ps_expr (pe_bm PySem.F.plainAttrs_list PySem.F.slot_list_append PySem.F.type_list_append mt_append (pe_ix ix_list (pv 1) (pe_un un_neg pe_int) (fun _ _ => rfl)) (pa_cons (pe_fn (fn_piece_at T) (hr.mono (by decide)) (pa_cons (pv 0) (pa_cons (pv 2) pa_nil))) pa_nil))))))
      (pss_one (ps_ret (pv 1))))), ?_⟩
  rintro vs Q ⟨t, ⟨v, rfl, hz, a, rfl, ha⟩, k⟩
  change t.length ≤ 1000 at hz
  change SqL K H a (nV t) at ha
  have hst := starts_le t t.length 0 (Nat.zero_le _)
  change (∀ x ∈ starts t, x ≤ t.length) ∧ (starts t).length ≤ t.length + 1 at hst
  refine Evl.q_asgL (Evl.el_lst ea_nil (Nat.zero_le _)) fun p H1 np e1 hp => ?_
  refine Evl.q_forNLn (evl_callL t (ea_cons (ev_var rfl) ea_nil) fun H2 e2 => ⟨_, rfl, hz, a, rfl, SqL.ex (e1.trans e2) ha⟩)
    (fun sp i σ' H' => (Ex H H' ∧ H' sp = some (.lst (nV (starts t))) ∧ sp ≠ p) ∧ (if i = 0 then H' p = some (.lst []) else Lo K ad H p sp (2 * i) (((starts t).take i).foldl (lineStep t) []) H') ∧ ∃ x, σ' = [some (.ref a), some (.ref p), x])
    (fun sp H2 ns e2 h2 => ⟨⟨e1.trans e2, h2, (ne_of_none hp ns).symm⟩, e2 _ _ hp, none, rfl⟩) (fun sp i σ' H' _ hh => SqL.of hh.1.2.1) ?_ ?_
  · rintro sp i x σ' H' hx ⟨⟨e, hs, hsp⟩, hlo, y, rfl⟩
    have hi : i < 1001 := by
      have := (List.getElem?_eq_some_iff.mp hx).1
      rw [nV_len] at this
      omega
    obtain ⟨b, hb, rfl⟩ : ∃ b, (starts t)[i]? = some b ∧ x = .int (b : Nat) := by
      rw [nV_map] at hx
      obtain ⟨b, hb, rfl⟩ := get_map hx
      exact ⟨b, hb, rfl⟩
    have hbt := hst.1 b (List.mem_of_getElem? hb)
    obtain ⟨ls, hls⟩ : ∃ ls, ls = ((starts t).take i).foldl (lineStep t) [] := ⟨_, rfl⟩
    have hstep : ((starts t).take (i + 1)).foldl (lineStep t) [] = addLast (if isNew t b = true then ls ++ [[]] else ls) (pieceAt t b) := by
      rw [take_succ_get hb, List.foldl_append, ← hls]
      rfl
    have hloS : LoS K ad H p sp (2 * i) ls H' := by
      by_cases h0 : i = 0
      · subst h0
        rw [if_pos rfl] at hlo
        exact .inl ⟨hls, hlo⟩
      · rw [if_neg h0] at hlo
        rw [hls]
        exact .inr hlo
    have rest : ∀ H2, Ex H H2 → H2 sp = some (.lst (nV (starts t))) → Lo K ad H p sp (2 * i + 1) (if isNew t b = true then ls ++ [[]] else ls) H2 → tDrop (tBM K "list" rAppend (tOp (rIxL K) (tVar 1) (tUn (rU fun i => .int (-i)) (tC (.int 1)))) (tCons (tCall (spN (A2 fun (x : List Nat × Nat) v u H => x.1.length ≤ 1000 ∧ isX K x.1 v H ∧ u = .int (x.2 : Nat) ∧ x.2 ≤ x.1.length) fun x p H => isPi K ad H (.ref p) (pieceAt x.1 x.2)) [] E0 (tCons (tVar 0) (tCons (tVar 2) tNil))) tNil)) { nx := (fun σ' H' => (Ex H H' ∧ H' sp = some (.lst (nV (starts t))) ∧ sp ≠ p) ∧ (if i + 1 = 0 then H' p = some (.lst []) else Lo K ad H p sp (2 * (i + 1)) (((starts t).take (i + 1)).foldl (lineStep t) []) H') ∧ ∃ x, σ' = [some (.ref a), some (.ref p), x]), rt := Q, bk := tRet (tVar 1) { nx := fun _ H' => Q .non H', rt := Q }, ct := (fun σ' H' => (Ex H H' ∧ H' sp = some (.lst (nV (starts t))) ∧ sp ≠ p) ∧ (if i + 1 = 0 then H' p = some (.lst []) else Lo K ad H p sp (2 * (i + 1)) (((starts t).take (i + 1)).foldl (lineStep t) []) H') ∧ ∃ x, σ' = [some (.ref a), some (.ref p), x]) } [some (.ref a), some (.ref p), some (.int (b : Nat))] H2 := by
      intro H2 ex hs2 hl
      obtain ⟨xs, q, ys, g1, g2, g3, g4, g5, g6, g7, g8⟩ := hl.add
      refine s_appP g3 (ev_ixL (ev_var rfl) (ev_neg ev_c) (SqL.of g1) g2) (evp_F (evf_callN (t, b) (ea_cons (ev_var rfl) (ea_cons (ev_var rfl) ea_nil)) fun H3 e3 => ⟨_, _, rfl, hz, ⟨a, rfl, SqL.ex (ex.trans e3) ha⟩, rfl, hbt⟩)) (Evl.sz_lt (by omega)) fun v H3 e3 ⟨r, hr, hpi⟩ => ?_
      subst hr
      refine ⟨⟨Ex.mut (ex.trans e3) g7, by rw [upd_ne g6.symm]; exact e3 _ _ hs2, hsp⟩, ?_, _, rfl⟩
      rw [if_neg (by omega), hstep]
      exact g8 _ _ H3 e3 hpi
    refine Evl.q_when (b := isNew t b) ?_ (fun hn H2 e2 => ?_) fun hn H2 e2 => ?_
    · refine Evl.et_is (Evl.et_or (Evl.et_test (ev_bool (ev_eqI (ev_var rfl) ev_c) (cast_eq b 0))) fun hb0 => Evl.et_test (b := t[b - 1]? == some 10) ?_) rfl
      rw [decide_eq_false_iff_not] at hb0
      refine ev_bool (ev_eqI (ev_bat (k := b - 1) (ev_var rfl) (ev_int (ev_I0 (ev_var rfl) ev_c) (show ((b : Int) - 1) = ((b - 1 : Nat) : Int) by omega)) (SqL.ex e ha) (by omega)) ev_c) ?_
      rw [bat_get (by omega), Bool.eq_iff_iff, beq_iff_eq, decide_eq_true_eq]
      refine Iff.trans ?_ Option.some_inj.symm
      omega
    · obtain ⟨xs, g1, g2, g3⟩ := (hloS.ex e2).new hsp (e2 _ _ hs) (e.trans e2)
      refine Evl.s_appL g1 (ev_var rfl) (Evl.el_lst ea_nil (Nat.zero_le _)) (by omega) fun q H3 nq e3 hq => ?_
      refine rest _ (Ex.mut ((e.trans e2).trans e3) np) (by rw [upd_ne hsp]; exact (e2.trans e3) _ _ hs) ?_
      rw [if_pos hn]
      exact g3 q H3 e3 nq hq
    · refine rest H2 (e.trans e2) (e2 _ _ hs) ?_
      rw [hn]
      refine (Lo.ex e2 ?_).more (Nat.le_succ _)
      rcases hloS with ⟨q1, _⟩ | h
      · exfalso
        have h0 : i = 0 := by
          by_cases h0 : i = 0
          · exact h0
          · rw [if_neg h0, ← hls, q1] at hlo
            obtain ⟨_, _, _, D, l, h, _⟩ := hlo
            cases D <;> cases h
        subst h0
        rw [starts_head] at hb
        cases hb
        cases hn
      · exact h
  · rintro sp σ' H' ⟨⟨e, hs, hsp⟩, hlo, y, rfl⟩
    rw [nV_len, List.take_length] at hlo
    have h0 : ¬ (starts t).length = 0 := fun z => by
      have := starts_head t
      rw [List.length_eq_zero_iff.mp z] at this
      cases this
    rw [if_neg h0] at hlo
    exact Evl.s_ret (ev_var rfl) fun H2 e2 => k p H2 np (e.trans e2) (hlo.ex e2).end
end
end Tx
end

section
set_option Elab.async false
set_option linter.all false
set_option maxRecDepth 100000
set_option maxHeartbeats 4000000
set_option exponentiation.threshold 100000
namespace Tx
open PySem PySem.Spec PyProof.Rows L2
open Evl (Ex Ev EvL EvU EvT EvA EvO RV ev_c ev_var ea_nil ea_cons eo_none eo_some)
open VatdfBase (Cell Table)
theorem evp_Fn {te : TE} {σ : L2.St} {H : Hp} {P : Addr → Hp → Prop} (h : EvF te σ H P) : EvP te σ H (fun x H2 => ∃ p, x = .ref p ∧ H p = none ∧ P p H2) := fun H1 e Q q => h H1 e Q fun p H2 n e2 hp => q _ H2 e2 ⟨p, rfl, Evl.fresh_back e n, hp⟩
theorem evp_both {K : PySem.W.Frag} {te : TE} {σ : L2.St} {H : Hp} {v : V} {d : PyData} (h : Ev te σ H v) (hd : Dp K H v d) : EvP te σ H (fun x H2 => Dp K H2 x d ∧ x = v) := fun H1 e Q q => h H1 e Q fun H2 e2 => q v H2 e2 ⟨Dp.ex (e.trans e2) hd, rfl⟩
theorem mo_both {K : PySem.W.Frag} {d : PyData} {v : V} : Mo (fun x H => Dp K H x d ∧ x = v) := fun _ _ _ e h => ⟨Dp.ex e h.1, h.2⟩
theorem paired_pairs {α β : Type} {F : α → β → Prop} : ∀ {vs : List α} {bs : List β}, Paired F vs bs → ∃ l : List (α × β), l.map (·.1) = vs ∧ l.map (·.2) = bs ∧ ∀ p ∈ l, F p.1 p.2
  | _, _, .nil => ⟨[], rfl, rfl, by simp⟩
  | _, _, .cons (a := a) (b := b) h t => by
    obtain ⟨l, h1, h2, h3⟩ := paired_pairs t
    refine ⟨(a, b) :: l, by rw [List.map_cons, h1], by rw [List.map_cons, h2], fun p hp => ?_⟩
    rcases List.mem_cons.mp hp with rfl | hp
    · exact h
    · exact h3 p hp
/-! ### what lines have -/
theorem addLast_len (x : Vatdfa.Raw) (ls : List (List Vatdfa.Raw)) : (addLast ls x).length = ls.length := by
  rcases List.eq_nil_or_concat ls with rfl | ⟨D, l, rfl⟩
  · rfl
  · rw [List.concat_eq_append, addLast_snoc, List.length_append, List.length_append]
    rfl
theorem addLast_mem {x : Vatdfa.Raw} {ls : List (List Vatdfa.Raw)} {l : List Vatdfa.Raw} (h : l ∈ addLast ls x) : l ∈ ls ∨ ∃ l0 ∈ ls, l = l0 ++ [x] := by
  rcases List.eq_nil_or_concat ls with rfl | ⟨D, m, rfl⟩
  · cases h
  · rw [List.concat_eq_append] at h ⊢
    rw [addLast_snoc] at h
    rcases List.mem_append.mp h with h | h
    · exact .inl (List.mem_append_left _ h)
    · exact .inr ⟨m, by simp, List.mem_singleton.mp h⟩
theorem quotedRest_len : ∀ (n : Nat) (l : List Nat) (m : Nat), m ≤ n → (quotedRest l m).length ≤ m
  | 0, l, m, h => by
    obtain rfl : m = 0 := by omega
    rw [quoted_zero]
    exact Nat.le_refl _
  | n + 1, l, m, h => by
    match l, m with
    | l, 0 => rw [quoted_zero]; exact Nat.le_refl _
    | [], m + 1 => simp [quotedRest]
    | b :: r, m + 1 =>
      by_cases hb : b = 34
      · subst hb
        match r, m with
        | r, 0 => rw [quoted_one]; simp
        | [], m + 1 => simp [quotedRest]
        | c :: r, m + 1 =>
          rw [quoted_two, List.length_cons]
          have := quotedRest_len n r m (by omega)
          omega
      · rw [quoted_ne hb, List.length_cons]
        have := quotedRest_len n r m (by omega)
        omega
theorem piece_len (t : List Nat) (a : Nat) (h : a ≤ t.length) : (pieceAt t a).bytes.length ≤ t.length := by
  unfold pieceAt
  split
  · rename_i ho
    show (quotedRest _ _).length ≤ _
    have := quotedRest_len _ (t.drop (a + 1)) (closing t a - (a + 1)) (Nat.le_refl _)
    have := closing_le (opens_lt ho)
    omega
  · show ((t.drop a).take _).length ≤ _
    rw [List.length_take, List.length_drop]
    omega
theorem lines_bd (t : List Nat) : ∀ (as : List Nat) (ls : List (List Vatdfa.Raw)) (N : Nat), (∀ a ∈ as, a ≤ t.length) → (∀ l ∈ ls, l.length ≤ N ∧ ∀ r ∈ l, r.bytes.length ≤ t.length) →
    (as.foldl (lineStep t) ls).length ≤ ls.length + as.length ∧ ∀ l ∈ as.foldl (lineStep t) ls, l.length ≤ N + as.length ∧ ∀ r ∈ l, r.bytes.length ≤ t.length
  | [], ls, N, _, h => ⟨Nat.le_refl _, h⟩
  | a :: as, ls, N, ha, h => by
    have ha0 := ha a List.mem_cons_self
    have ih := lines_bd t as (lineStep t ls a) (N + 1) (fun x hx => ha x (List.mem_cons_of_mem _ hx)) (by
      intro l hl
      unfold lineStep at hl
      have base : ∀ m ∈ (if isNew t a = true then ls ++ [[]] else ls), m.length ≤ N ∧ ∀ r ∈ m, r.bytes.length ≤ t.length := by
        intro m hm
        split at hm
        · rcases List.mem_append.mp hm with hm | hm
          · exact h m hm
          · rw [List.mem_singleton.mp hm]; exact ⟨Nat.zero_le _, by simp⟩
        · exact h m hm
      rcases addLast_mem hl with hl | ⟨l0, h0, rfl⟩
      · exact ⟨Nat.le_succ_of_le (base l hl).1, (base l hl).2⟩
      · refine ⟨by rw [List.length_append, List.length_singleton]; have := (base l0 h0).1; omega, fun r hr => ?_⟩
        rcases List.mem_append.mp hr with hr | hr
        · exact (base l0 h0).2 r hr
        · rw [List.mem_singleton.mp hr]; exact piece_len t a ha0)
    have hl : (lineStep t ls a).length ≤ ls.length + 1 := by
      unfold lineStep
      rw [addLast_len]
      split
      · rw [List.length_append]; exact Nat.le_refl _
      · omega
    rw [List.foldl_cons, List.length_cons]
    exact ⟨by omega, fun l hl => ⟨by have := (ih.2 l hl).1; omega, (ih.2 l hl).2⟩⟩
theorem lines_ok {t : List Nat} (h : t.length ≤ 1000) : (linesOf t).length ≤ 2000 ∧ ∀ l ∈ linesOf t, l.length ≤ 2000 ∧ ∀ r ∈ l, r.bytes.length ≤ 2000 := by
  have hs := starts_le t t.length 0 (Nat.zero_le _)
  have hb := lines_bd t (starts t) [] 0 hs.1 (by simp)
  have h2 : (starts t).length ≤ t.length + 1 := hs.2
  unfold linesOf
  rw [List.length_nil] at hb
  exact ⟨by omega, fun l hl => ⟨by have := (hb.2 l hl).1; omega, fun r hr => Nat.le_trans ((hb.2 l hl).2 r hr) (by omega)⟩⟩
theorem lines_some (t : List Nat) : linesOf t ≠ [] := by
  have keep : ∀ (as : List Nat) (ls : List (List Vatdfa.Raw)), ls ≠ [] → as.foldl (lineStep t) ls ≠ [] := by
    intro as
    induction as with
    | nil => intro ls h; exact h
    | cons a as ih =>
      intro ls h
      rw [List.foldl_cons]
      refine ih _ fun z => ?_
      have := congrArg List.length z
      unfold lineStep at this
      rw [addLast_len] at this
      split at this
      · simp at this
      · exact h (List.length_eq_zero_iff.mp this)
  have h0 := starts_head t
  unfold linesOf
  cases hs : starts t with
  | nil => rw [hs] at h0; cases h0
  | cons a as =>
    rw [hs] at h0
    cases h0
    rw [List.foldl_cons]
    refine keep as _ fun z => ?_
    have := congrArg List.length z
    unfold lineStep at this
    rw [addLast_len] at this
    cases this
def okL (l : List Vatdfa.Raw) : Prop := l.length ≤ 2000 ∧ ∀ r ∈ l, r.bytes.length ≤ 2000
section
variable {K : PySem.W.Frag} {mg : Str → Option Value} {ad : Ads} {σ : L2.St} {H : Hp} {te : TE} {p dx : Addr} {x y z : V}
theorem ev_said (T : Tops K mg ad) (h : Ev te σ H (.ref p)) (hp : H p = some (.ins ad.Piece dx (pieF x y z))) : Ev (tFld K te "said") σ H y := ev_fld h hp T.k_Piece T.a_Piece_said pie_said
theorem ev_place (T : Tops K mg ad) (h : Ev te σ H (.ref p)) (hp : H p = some (.ins ad.Piece dx (pieF x y z))) : Ev (tFld K te "place") σ H x := ev_fld h hp T.k_Piece T.a_Piece_place pie_place
theorem ev_quoted (T : Tops K mg ad) (h : Ev te σ H (.ref p)) (hp : H p = some (.ins ad.Piece dx (pieF x y z))) : Ev (tFld K te "quoted") σ H z := ev_fld h hp T.k_Piece T.a_Piece_quoted pie_quoted
end
section
variable {P : Program} {w : World} {K : PySem.W.Frag} {mg : Str → Option Value} {base : Heap} {ad : Ads}
theorem fn_tells_empty (T : Tops K mg ad) : Fn P w K mg base "tells_empty" 1 ["piece"] (spV (A1 fun (r : Vatdfa.Raw) v H => isPi K ad H v r) fun r => .bl (tellsEmpty r)) := by
  refine Fn.mk' T.f_tells_empty sc_tells_empty lV1 fun cdv f A outer s H E hr => ⟨_, (pss_one (ps_ret (pe_and (pe_not (pe_fld (pv 0) rfl)) (pe_one (pe_cmpR op_eq (pe_callB call_len_seq (by rfl) T.b_len PySem.boot_len (pa_cons (pe_fld (pv 0) rfl) pa_nil)) pe_int (nomark _)))))), ?_⟩
  rintro vs Q ⟨r, ⟨v, rfl, p, dx, b, rfl, hp, hb⟩, k⟩
  exact Evl.s_ret (ev_bool (Evl.ev_andV (Evl.ev_notV (ev_quoted T (ev_var rfl) hp)) fun _ => ev_eqI (ev_lenT (ev_said T (ev_var rfl) hp) hb) ev_c) (by unfold tellsEmpty; rw [nV_len]; exact congrArg _ (cast_eq _ 0))) k
theorem fn_tells_number (T : Tops K mg ad) : Fn P w K mg base "tells_number" 3 ["piece"] (spV (A1 fun (r : Vatdfa.Raw) v H => r.bytes.length ≤ 2000 ∧ isPi K ad H v r) fun r => .bl (tellsNumber r)) := by
  refine Fn.mk' T.f_tells_number sc_tells_number lV1 fun cdv f A outer s H E hr => ⟨_, (pss_one (ps_ret (pe_and (pe_not (pe_fld (pv 0) rfl)) (pe_one (pe_fn (fn_is_number_text T) (hr.mono (by decide)) (pa_cons (pe_fld (pv 0) rfl) pa_nil)))))), ?_⟩
  rintro vs Q ⟨r, ⟨v, rfl, hz, p, dx, b, rfl, hp, hb⟩, k⟩
  exact Evl.s_ret (Evl.ev_andV (Evl.ev_notV (ev_quoted T (ev_var rfl) hp)) fun _ => ev_callV r.bytes (ea_cons (ev_said T (ev_var rfl) hp) ea_nil) fun H1 e1 => ⟨_, rfl, hz, b, rfl, SqT.ex e1 hb⟩) k
theorem fn_tells_cell (T : Tops K mg ad) : Fn P w K mg base "tells_cell" 4 ["piece"] (spV (A1 fun (r : Vatdfa.Raw) v H => r.bytes.length ≤ 2000 ∧ isPi K ad H v r) fun r => .bl (tellsCell r)) := by
  refine Fn.mk' T.f_tells_cell sc_tells_cell lV1 fun cdv f A outer s H E hr => ⟨_, (pss_cons (ps_if (pt_val (pe_fn (fn_tells_empty T) (hr.mono (by decide)) (pa_cons (pv 0) pa_nil))) (pss_one (ps_ret pe_bl)) pss_nil)
      (pss_cons (ps_if (pt_val (pe_fn (fn_tells_number T) (hr.mono (by decide)) (pa_cons (pv 0) pa_nil))) (pss_one (ps_ret (pe_fn (fn_in_limits T) (hr.mono (by decide)) (pa_cons (pe_fn (fn_number_of T) (hr.mono (by decide)) (pa_cons (pe_fld (pv 0) rfl) pa_nil)) pa_nil)))) pss_nil)
      (pss_one (ps_ret (pe_fn (fn_is_word T) (hr.mono (by decide)) (pa_cons (pe_fld (pv 0) rfl) pa_nil)))))), ?_⟩
  rintro vs Q ⟨r, ⟨v, rfl, hz, hpi⟩, k⟩
  obtain ⟨p, dx, b, rfl, hp, hb⟩ := id hpi
  change ∀ H', Ex H H' → Q (.bl (tellsCell r)) H' at k
  unfold tellsCell at k
  refine Evl.q_when (et_val (ev_callV r (ea_cons (ev_var rfl) ea_nil) fun H1 e1 => ⟨_, rfl, hpi.ex e1⟩)) (fun hb1 H1 e1 => ?_) fun hb1 H1 e1 => ?_
  · rw [if_pos hb1] at k
    exact Evl.s_ret ev_c fun H2 e2 => k H2 (e1.trans e2)
  · rw [if_neg (by rw [hb1]; decide)] at k
    refine Evl.q_when (et_val (ev_callV r (ea_cons (ev_var rfl) ea_nil) fun H2 e2 => ⟨_, rfl, hz, hpi.ex (e1.trans e2)⟩)) (fun hb2 H2 e2 => ?_) fun hb2 H2 e2 => ?_
    · rw [if_pos hb2] at k
      have hs : (Vatdfa.numberOf r.bytes).isSome = true := by
        unfold tellsNumber at hb2
        rw [Bool.and_eq_true] at hb2
        exact hb2.2
      obtain ⟨z, hzz⟩ := Option.isSome_iff_exists.mp hs
      rw [hzz] at k
      exact Evl.s_ret (ev_callV z (ea_cons (ev_callV (r.bytes, z) (ea_cons (ev_said T (ev_var rfl) ((e1.trans e2) _ _ hp)) ea_nil) fun H3 e3 => ⟨_, rfl, hz, hzz, b, rfl, SqT.ex ((e1.trans e2).trans e3) hb⟩) ea_nil) fun _ _ => ⟨_, rfl, rfl⟩) fun H3 e3 => k H3 ((e1.trans e2).trans e3)
    · rw [if_neg (by rw [hb2]; decide)] at k
      exact Evl.s_ret (ev_callV r.bytes (ea_cons (ev_said T (ev_var rfl) ((e1.trans e2) _ _ hp)) ea_nil) fun H3 e3 => ⟨_, rfl, hz, b, rfl, SqT.ex ((e1.trans e2).trans e3) hb⟩) fun H3 e3 => k H3 ((e1.trans e2).trans e3)
theorem fn_cell_of (T : Tops K mg ad) : Fn P w K mg base "cell_of" 4 ["piece"] (spP (A1 fun (r : Vatdfa.Raw) v H => r.bytes.length ≤ 2000 ∧ isPi K ad H v r) fun r v H => Dp K H v (cD (cellOf r))) := by
  refine Fn.mk' T.f_cell_of sc_cell_of lP1 fun cdv f A outer s H E hr => ⟨_, (pss_cons (ps_if (pt_val (pe_fn (fn_tells_empty T) (hr.mono (by decide)) (pa_cons (pv 0) pa_nil))) (pss_one (ps_ret (pe_gr T.c_EMPTY))) pss_nil)
      (pss_cons (ps_if (pt_val (pe_fn (fn_tells_number T) (hr.mono (by decide)) (pa_cons (pv 0) pa_nil))) (pss_one (ps_ret (pe_fn (fn_number_cell T) (hr.mono (by decide)) (pa_cons (pe_fn (fn_number_of T) (hr.mono (by decide)) (pa_cons (pe_fld (pv 0) rfl) pa_nil)) pa_nil)))) pss_nil)
      (pss_one (ps_ret (pe_fn (fn_word_cell T) (hr.mono (by decide)) (pa_cons (pe_fld (pv 0) rfl) pa_nil)))))), ?_⟩
  rintro vs Q ⟨r, ⟨v, rfl, hz, hpi⟩, k⟩
  obtain ⟨p, dx, b, rfl, hp, hb⟩ := id hpi
  change ∀ v H', Ex H H' → Dp K H' v (cD (cellOf r)) → Q v H' at k
  unfold cellOf at k
  refine Evl.q_when (et_val (ev_callV r (ea_cons (ev_var rfl) ea_nil) fun H1 e1 => ⟨_, rfl, hpi.ex e1⟩)) (fun hb1 H1 e1 => ?_) fun hb1 H1 e1 => ?_
  · rw [if_pos hb1] at k
    exact Evl.s_ret ev_c fun H2 e2 => k _ H2 (e1.trans e2) (dEMPTY T H2)
  · rw [if_neg (by rw [hb1]; decide)] at k
    refine Evl.q_when (et_val (ev_callV r (ea_cons (ev_var rfl) ea_nil) fun H2 e2 => ⟨_, rfl, hz, hpi.ex (e1.trans e2)⟩)) (fun hb2 H2 e2 => ?_) fun hb2 H2 e2 => ?_
    · rw [if_pos hb2] at k
      have hs : (Vatdfa.numberOf r.bytes).isSome = true := by
        unfold tellsNumber at hb2
        rw [Bool.and_eq_true] at hb2
        exact hb2.2
      obtain ⟨z, hzz⟩ := Option.isSome_iff_exists.mp hs
      rw [hzz] at k
      exact s_retP (evp_callP z (ea_cons (ev_callV (r.bytes, z) (ea_cons (ev_said T (ev_var rfl) ((e1.trans e2) _ _ hp)) ea_nil) fun H3 e3 => ⟨_, rfl, hz, hzz, b, rfl, SqT.ex ((e1.trans e2).trans e3) hb⟩) ea_nil) fun _ _ => ⟨_, rfl, rfl⟩) fun v H3 e3 => k v H3 ((e1.trans e2).trans e3)
    · rw [if_neg (by rw [hb2]; decide)] at k
      exact s_retP (evp_callP r.bytes (ea_cons (ev_said T (ev_var rfl) ((e1.trans e2) _ _ hp)) ea_nil) fun H3 e3 => ⟨_, rfl, hz, b, rfl, SqT.ex ((e1.trans e2).trans e3) hb⟩) fun v H3 e3 => k v H3 ((e1.trans e2).trans e3)
theorem fn_row_of (T : Tops K mg ad) : Fn P w K mg base "row_of" 5 ["line"] (spP (A1 fun (l : List Vatdfa.Raw) v H => okL l ∧ isLn K ad H v l) fun l v H => Dp K H v (rD (l.map cellOf))) := by
  refine Fn.mk' T.f_row_of sc_row_of lP1 fun cdv f A outer s H E hr => ⟨_, (pss_one (ps_ret (pe_callTy call_tuple_of (by rfl) T.b_tuple (by decide +kernel) (pa_cons (pe_lc (own := [("piece", 1)]) (g := gName 1) (tt := tYes) rfl sc_row_of.nd (pi_list (pv 0)) (blkOk_by (N := ["line", "piece"]) (sc := defScope s_row_of) (by decide +kernel)) (fun _ _ _ _ _ => pg_name (i := 1) sc_row_of.nd rfl (Or.inl rfl)) (fun _ _ _ _ _ => pts_nil) (fun _ _ _ _ _ => (pe_fn (fn_cell_of T) (hr.mono (by decide)) (pa_cons (pv 1) pa_nil)))) pa_nil)))), ?_⟩
  rintro vs Q ⟨l, ⟨v, rfl, ⟨hz, hz2⟩, q, ys, rfl, hq, hp⟩, k⟩
  obtain ⟨lp, h1, h2, h3⟩ := paired_pairs hp
  have hlen : lp.length = l.length := by rw [← h2, List.length_map]
  refine s_retP (evp_tupleD (evf_lcD lp (·.1) (fun p => cD (cellOf p.2)) (fun p => stab_cD _) (src_L (ev_var rfl) (by rw [h1]; exact SqL.of hq)) (by omega) (fun _ => rfl) ?_)) fun v H1 e1 hd => k v H1 e1 ?_
  · rintro ⟨x, r⟩ hpr H1 e1
    exact evp_callP r (ea_cons (ev_var rfl) ea_nil) fun H2 e2 => ⟨_, rfl, hz2 r (by rw [← h2]; exact List.mem_map.mpr ⟨_, hpr, rfl⟩), (h3 _ hpr).ex (e1.trans e2)⟩
  · show Dp K H1 v (.tuple ((l.map cellOf).map cD))
    rw [← h2, List.map_map, List.map_map]
    exact hd
theorem fn_text_table (T : Tops K mg ad) : Fn P w K mg base "text_table" 6 ["text"] (spP (A1 fun (x : List Nat × Hp) v H => x.1.length ≤ 1000 ∧ isX K x.1 v H ∧ Dm x.2 H) fun x v H => isTabF K ad x.2 (textTable x.1) v H) := by
  refine Fn.mk' T.f_text_table sc_text_table lP1 fun cdv f A outer s H E hr => ⟨_, (pss_cons (ps_set (i := 1) sc_text_table.nd rfl (Or.inl rfl) (pe_fn (fn_lines_of T) (hr.mono (by decide)) (pa_cons (pv 0) pa_nil)))
      (pss_cons (ps_setLc (i := 2) (own := [("piece", 3)]) (g := gName 3) (tt := tYes) rfl sc_text_table.nd rfl rfl (sw_true rfl rfl rfl (by decide +kernel)) (pi_list (pe_ix ix_list (pv 1) pe_int (fun _ _ => rfl))) (blkOk_by (N := ["text", "lines", "names", "piece", "line"]) (sc := defScope s_text_table) (by decide +kernel)) (fun _ _ _ _ _ => pg_name (i := 3) sc_text_table.nd rfl (Or.inl rfl)) (fun _ _ _ _ _ => pts_nil) (fun _ _ _ _ _ => (pe_fldK K rfl (pv 3) rfl)))
      (pss_one (ps_ret (pe_new (in_Table T) (hr.mono (by decide)) (pa_cons (pv 2) (pa_cons (pe_lc (own := [("line", 4)]) (g := gName 4) (tt := tYes) rfl sc_text_table.nd (pi_list (pe_slice sl_list (pv 1) (po_some pe_int) po_none)) (blkOk_by (N := ["text", "lines", "names", "piece", "line"]) (sc := defScope s_text_table) (by decide +kernel)) (fun _ _ _ _ _ => pg_name (i := 4) sc_text_table.nd rfl (Or.inl rfl)) (fun _ _ _ _ _ => pts_nil) (fun _ _ _ _ _ => (pe_fn (fn_row_of T) (hr.mono (by decide)) (pa_cons (pv 4) pa_nil)))) pa_nil))))))), ?_⟩
  rintro vs Q ⟨⟨t, H0⟩, ⟨v, rfl, hz, ⟨a, rfl, ha⟩, hdm⟩, k⟩
  change t.length ≤ 1000 at hz
  change SqL K H a (nV t) at ha
  change Dm H0 H at hdm
  have hok := lines_ok hz
  have hne := lines_some t
  change ∀ v H', Ex H H' → isTabF K ad H0 (textTable t) v H' → Q v H' at k
  unfold textTable at k
  refine q_asgF (evf_callN t (ea_cons (ev_var rfl) ea_nil) fun H1 e1 => ⟨_, rfl, hz, a, rfl, SqL.ex e1 ha⟩) fun p H1 np e1 ⟨vs, hp, hpl⟩ => ?_
  generalize linesOf t = ls at hok hne hpl k
  match ls, vs, hpl with
  | [], _, .nil => exact absurd rfl hne
  | h :: r, v0 :: vs, .cons hh hr =>
    obtain ⟨q, ys, rfl, hq, hql⟩ := hh
    have hokh := hok.2 h List.mem_cons_self
    obtain ⟨lp, g1, g2, g3⟩ := paired_pairs hql
    have hlen : lp.length = h.length := by rw [← g2, List.length_map]
    refine q_asgF (evf_lcD lp (·.1) (fun p => bD p.2.bytes) (fun p => stab_bD _) (src_L (ev_ixL (v := .ref q) (ev_var rfl) ev_c (SqL.of hp) (atI_nat (j := 0) rfl)) (by rw [g1]; exact SqL.of hq)) (by omega) (fun _ => rfl) ?_) fun pn H2 nn e2 ⟨ns, hn, hnd⟩ => ?_
    · rintro ⟨x, r⟩ hpr H2 e2
      obtain ⟨pp, dx, b, hx, hpi, hb⟩ := (g3 _ hpr).ex e2
      change x = _ at hx
      subst hx
      exact evp_dp (ev_said T (ev_var rfl) hpi) (dp_bD.mpr ⟨b, rfl, hb⟩)
    obtain ⟨rp, r1, r2, r3⟩ := paired_pairs hr
    have hrl : rp.length = r.length := by rw [← r2, List.length_map]
    have hr2000 := hok.1
    rw [List.length_cons] at hr2000
    have hnames : Dp K H2 (.ref pn) (.list ((h.map (·.bytes)).map bD)) := by
      refine dp_list.mpr ⟨pn, ns, rfl, SqL.of hn, ?_⟩
      rw [← g2, List.map_map, List.map_map]
      exact hnd
    have hp2 := e2 _ _ hp
    have hsl : EvP (tSl (rSlL K) (tVar 1) (tPart (tC (.int 1))) tNoPart) [some (.ref a), some (.ref p), some (.ref pn), none, none] H2 (fun v H3 => ∃ a, v = .ref a ∧ SqL K H3 a (rp.map (·.1))) := by
      have hcut : cutV (.ref q :: vs) (some ((1 : Nat) : Int)) none = vs := by rw [cut_from (by simp)]; rfl
      have h1 : EvL (tSl (rSlL K) (tVar 1) (tPart (tC (.int 1))) tNoPart) [some (.ref a), some (.ref p), some (.ref pn), none, none] H2 (cutV (.ref q :: vs) (some ((1 : Nat) : Int)) none) := evl_sl (ev_var rfl) (eo_some ev_c) eo_none (SqL.of hp2)
      rw [hcut] at h1
      rw [r1]
      exact (evp_F (evf_L h1)).imp fun v H3 e3 ⟨a, h1, h2⟩ => ⟨a, h1, SqL.of h2⟩
    have hrd : ∀ (v : V) (H3 : Hp), (∃ p, v = .ref p ∧ H2 p = none ∧ ∃ ys, H3 p = some (.lst ys) ∧ DpAll K H3 ys (rp.map fun p => rD (p.2.map cellOf))) → ∃ p, v = .ref p ∧ H2 p = none ∧ Dp K H3 v (.list ((r.map fun (l : List Vatdfa.Raw) => l.map cellOf).map rD)) := by
      rintro v H3 ⟨pr, h1, h0, ys, h2, h3⟩
      refine ⟨pr, h1, h0, ?_⟩
      refine dp_list.mpr ⟨pr, ys, h1, SqL.of h2, ?_⟩
      rw [← r2, List.map_map, List.map_map]
      exact h3
    refine s_retF (evf_newP (eap_two ((evp_both (ev_var rfl) hnames)) mo_both ((evp_Fn (evf_lcD rp (·.1) (fun p => rD (p.2.map cellOf)) (fun p => stab_rD _) hsl (by omega) (fun _ => rfl) ?_)).imp fun v H3 _ => hrd v H3)) (fun _ _ _ e ⟨v, w, h1, h2, q, h3, h4, h5⟩ => ⟨v, w, h1, ⟨Dp.ex e h2.1, h2.2⟩, q, h3, h4, Dp.ex e h5⟩) fun _ _ ⟨_, _, h, _⟩ => by rw [h]; rfl) fun pt H3 nt e3 hfin => ?_
    · rintro ⟨x, l⟩ hpr H3 e3
      exact evp_callP l (ea_cons (ev_var rfl) ea_nil) fun H4 e4 => ⟨_, rfl, hok.2 l (List.mem_cons_of_mem _ (by rw [← r2]; exact List.mem_map.mpr ⟨_, hpr, rfl⟩)), (r3 _ hpr).ex ((e2.trans e3).trans e4)⟩
    · obtain ⟨dx, args, ⟨v, w, h9, ⟨h10, h8⟩, q, rfl, h11, h12⟩, hpt⟩ := hfin
      subst h9
      subst h8
      exact k _ H3 ((e1.trans e2).trans e3) (tabF_of hpt h10 h12 (hdm _ (Evl.fresh_back e1 nn)) (hdm _ (Evl.fresh_back (e1.trans e2) h11)))
end
end Tx
end

section
set_option Elab.async false
set_option linter.all false
set_option maxRecDepth 100000
set_option maxHeartbeats 4000000
set_option exponentiation.threshold 100000
namespace Tx
open PySem PySem.Spec PyProof.Rows L2
open Evl (Ex Ev EvL EvU EvT EvA EvO RV ev_c ev_var ea_nil ea_cons eo_none eo_some)
open VatdfBase (Cell Table)
/-! ### faults: a pair of whole numbers -/
def fI (f : Nat × Nat) : List Int := [(f.1 : Nat), (f.2 : Nat)]
def fD (f : Nat × Nat) : PyData := .tuple ((fI f).map .int)
def isF (K : PySem.W.Frag) (f : Nat × Nat) (v : V) (H : Hp) : Prop := Dp K H v (fD f)
theorem eqv_fD (f g : Nat × Nat) : PyData.eqv (fD f) (fD g) = decide (f = g) := by
  unfold fD
  rw [eqv_tupI]
  obtain ⟨a, b⟩ := f
  obtain ⟨c, d⟩ := g
  refine decide_eq_decide.mpr ?_
  simp [fI]
  omega
theorem shaped_fD (f : Nat × Nat) : SeqAt.shaped (fD f) = true := shaped_tupI _
section
variable {K : PySem.W.Frag} {mg : Str → Option Value} {ad : Ads} {σ : L2.St} {H : Hp} {te ta : TE} {v : V}
theorem dNO (T : Tops K mg ad) (H : Hp) : isF K (0, 0) (.ref ad.NO_FAULT) H := dp_tupI.mpr ⟨_, rfl, T.d_NO_FAULT H⟩
theorem evp_fault {a b : Nat} (h : Ev te σ H (.int (b : Nat))) (h0 : Ev ta σ H (.int (a : Nat))) : EvP (tTup (tCons ta (tCons te tNil))) σ H (fun v H2 => isF K (a, b) v H2) :=
  (evp_F (evf_U (Evl.eu_tup (ea_cons h0 (ea_cons h ea_nil)) (by show 2 ≤ _; decide)))).imp fun v H2 e ⟨p, h1, h2⟩ => dp_tupI.mpr ⟨p, h1, SqT.of h2⟩
theorem ev_isfault (T : Tops K mg ad) {f : Nat × Nat} (h : Ev te σ H v) (hf : isF K f v H) : Ev (tOp (rNeD K) te (tC (.ref ad.NO_FAULT))) σ H (.bl (!decide (f = (0, 0)))) :=
  ev_neD (evp_dp h hf) (evp_dp ev_c (dNO T H)) (shaped_fD _) (shaped_fD _) (eqv_fD _ _)
end
/-- lines -/
def isLs (K : PySem.W.Frag) (ad : Ads) (H : Hp) (v : V) (ls : List (List Vatdfa.Raw)) : Prop := ∃ p vs, v = .ref p ∧ SqL K H p vs ∧ Paired (isLn K ad H) vs ls
theorem isLs.ex {K : PySem.W.Frag} {ad : Ads} {H H' : Hp} {v : V} {l : List (List Vatdfa.Raw)} (e : Ex H H') (h : isLs K ad H v l) : isLs K ad H' v l := by
  obtain ⟨q, ys, h1, h2, h3⟩ := h
  exact ⟨q, ys, h1, SqL.ex e h2, paired_mono h3 fun _ _ => isLn.ex e⟩
def okB (b : Nat) : Bool := b == 10 || (decide (32 ≤ b) && decide (b ≤ 126))
theorem firstFault_drop {f : Nat → Nat × Nat} {l : List Nat} {i b : Nat} (h : l[i]? = some b) : firstFault ((l.drop i).map f) = if f b = (0, 0) then firstFault ((l.drop (i + 1)).map f) else f b := by
  obtain ⟨hl, hb⟩ := List.getElem?_eq_some_iff.mp h
  rw [List.drop_eq_getElem_cons hl, hb]
  rfl
section
variable {P : Program} {w : World} {K : PySem.W.Frag} {mg : Str → Option Value} {base : Heap} {ad : Ads}
theorem fn_byte_fault (T : Tops K mg ad) : Fn P w K mg base "byte_fault" 2 ["text"] (spP (A1 fun (t : List Nat) v H => t.length ≤ 1000 ∧ isX K t v H) fun t v H => isF K (byteFault t) v H) := by
  refine Fn.mk' T.f_byte_fault sc_byte_fault lP1 fun cdv f A outer s H E hr => ⟨_, (pss_cons (ps_for PassesOwn.never rfl (pi_range1 rfl T.b_range (pa_cons (pe_callB call_len_seq (by rfl) T.b_len PySem.boot_len (pa_cons (pv 0) pa_nil)) pa_nil)) (pg_name (i := 1) sc_byte_fault.nd rfl (Or.inl rfl)) (pss_one (ps_if (PW.pt (pw_and (pt_cmpR op_ne (pe_ix ix_list (pv 0) (pv 1) (fun _ _ => rfl)) (pe_gi T.c_LINE_END) (nomark _)) (pw_and1 (pt_not (pt_val (pe_fn (fn_is_seen T) (hr.mono (by decide)) (pa_cons (pe_ix ix_list (pv 0) (pv 1) (fun _ _ => rfl)) pa_nil))))))) (pss_one (ps_ret (pe_tup (pa_cons pe_int (pa_cons (pv 1) pa_nil))))) pss_nil)))
      (pss_one (ps_ret (pe_gr T.c_NO_FAULT)))), ?_⟩
  rintro vs Q ⟨t, ⟨v, rfl, hz, a, rfl, ha⟩, k⟩
  change ∀ v H', Ex H H' → isF K (byteFault t) v H' → Q v H' at k
  unfold byteFault at k
  refine Evl.q_forR1 (n := (t.length : Nat)) (ea_cons (ev_lenX (ev_var rfl) ha) ea_nil) (by omega)
    (fun i σ' H' => Ex H H' ∧ (∀ j, j < i → okB (bat t j) = true) ∧ ∃ x, σ' = [some (.ref a), x]) (fun H1 e1 => ⟨e1, by omega, none, rfl⟩) ?_ ?_
  · rintro i σ' H' hi ⟨e, hg, x, rfl⟩
    have hi' : i < t.length := by omega
    have ha' := SqL.ex e ha
    refine Evl.s_when (b := !okB (bat t i)) (Evl.et_is (Evl.et_and (Evl.et_test (ev_neI (ev_bat (ev_var rfl) (ev_var rfl) ha' hi') ev_c)) fun _ => Evl.et_not (et_val (ev_callV (bat t i) (ea_cons (ev_bat (ev_var rfl) (ev_var rfl) ha' hi') ea_nil) fun _ _ => ⟨_, rfl, rfl⟩))) ?_) (fun hb H1 e1 => ?_) fun hb H1 e1 => ?_
    · unfold okB isSeen
      rw [Bool.not_or]
      congr 1
      rw [show decide (((bat t i : Nat) : Int) = 10) = decide (bat t i = 10) from cast_eq _ 10]
      rfl
    · rw [Bool.not_eq_true'] at hb
      refine s_retP (evp_fault (K := K) (a := 1) (b := i) (ev_var rfl) ev_c) fun v H2 e2 hv => k v H2 ((e.trans e1).trans e2) ?_
      have hf : t.findIdx? (fun b => !(b == 10 || (decide (32 ≤ b) && decide (b ≤ 126)))) = some i := by
        rw [List.findIdx?_eq_some_iff_getElem]
        refine ⟨hi', ?_, fun j hj => ?_⟩
        · have := bat_get hi'
          rw [List.getElem?_eq_getElem hi'] at this
          rw [Option.some.inj this]
          show (!okB (bat t i)) = true
          rw [hb]
          rfl
        · have hjt : j < t.length := by omega
          have := bat_get hjt
          rw [List.getElem?_eq_getElem hjt] at this
          rw [Option.some.inj this]
          show ¬ (!okB (bat t j)) = true
          rw [hg j hj]
          decide
      rw [hf]
      exact hv
    · rw [Bool.not_eq_false'] at hb
      refine ⟨e.trans e1, fun j hj => ?_, _, rfl⟩
      by_cases h : j = i
      · rw [h]; exact hb
      · exact hg j (by omega)
  · rintro σ' H' ⟨e, hg, x, rfl⟩
    refine Evl.s_ret ev_c fun H2 e2 => k _ H2 (e.trans e2) ?_
    have hf : t.findIdx? (fun b => !(b == 10 || (decide (32 ≤ b) && decide (b ≤ 126)))) = none := by
      rw [List.findIdx?_eq_none_iff]
      intro x hx
      obtain ⟨j, hj, rfl⟩ := List.mem_iff_getElem.mp hx
      have := bat_get hj
      rw [List.getElem?_eq_getElem hj] at this
      rw [Option.some.inj this]
      show (!okB (bat t j)) = false
      rw [hg j (by omega)]
      rfl
    rw [hf]
    exact dNO T H2
theorem fn_quote_fault_at (T : Tops K mg ad) : Fn P w K mg base "quote_fault_at" 3 ["text", "at"] (spP (A2 fun (x : List Nat × Nat) v u H => x.1.length ≤ 1000 ∧ isX K x.1 v H ∧ u = .int (x.2 : Nat) ∧ x.2 ≤ x.1.length) fun x v H => isF K (quoteFaultAt x.1 x.2) v H) := by
  refine Fn.mk' T.f_quote_fault_at sc_quote_fault_at lP2 fun cdv f A outer s H E hr => ⟨_, (pss_cons (ps_if (pt_not (pt_val (pe_fn (fn_opens T) (hr.mono (by decide)) (pa_cons (pv 0) (pa_cons (pv 1) pa_nil))))) (pss_one (ps_ret (pe_gr T.c_NO_FAULT))) pss_nil)
      (pss_cons (ps_set (i := 2) sc_quote_fault_at.nd rfl (Or.inl rfl) (pe_fn (fn_closing T) (hr.mono (by decide)) (pa_cons (pv 0) (pa_cons (pv 1) pa_nil))))
      (pss_cons (ps_if (pt_cmpR op_eq (pv 2) (pe_callB call_len_seq (by rfl) T.b_len PySem.boot_len (pa_cons (pv 0) pa_nil)) (nomark _)) (pss_one (ps_ret (pe_tup (pa_cons pe_int (pa_cons (pv 1) pa_nil))))) pss_nil)
      (pss_cons (ps_if (PW.pt (pw_and (pt_cmpR op_lt (pe_op op_add (pv 2) pe_int) (pe_callB call_len_seq (by rfl) T.b_len PySem.boot_len (pa_cons (pv 0) pa_nil)) (nomark _)) (pw_and1 (pt_not (pt_val (pe_fn (fn_parts_cells T) (hr.mono (by decide)) (pa_cons (pe_ix ix_list (pv 0) (pe_op op_add (pv 2) pe_int) (fun _ _ => rfl)) pa_nil))))))) (pss_one (ps_ret (pe_tup (pa_cons pe_int (pa_cons (pe_op op_add (pv 2) pe_int) pa_nil))))) pss_nil)
      (pss_one (ps_ret (pe_gr T.c_NO_FAULT))))))), ?_⟩
  rintro vs Q ⟨⟨t, i⟩, ⟨v, u, rfl, hz, ⟨a, rfl, ha⟩, rfl, hi⟩, k⟩
  change ∀ v H', Ex H H' → isF K (quoteFaultAt t i) v H' → Q v H' at k
  change t.length ≤ 1000 at hz
  change SqL K H a (nV t) at ha
  unfold quoteFaultAt at k
  refine Evl.q_when (Evl.et_not (et_val (ev_callV (t, i) (ea_cons (ev_var rfl) (ea_cons (ev_var rfl) ea_nil)) fun H1 e1 => ⟨_, _, rfl, hz, ⟨a, rfl, SqL.ex e1 ha⟩, rfl⟩))) (fun ho H1 e1 => ?_) fun ho H1 e1 => ?_
  · rw [Bool.not_eq_true'] at ho
    rw [if_neg (by rw [show opens t i = false from ho]; decide)] at k
    exact Evl.s_ret ev_c fun H2 e2 => k _ H2 (e1.trans e2) (dNO T H2)
  · rw [Bool.not_eq_false'] at ho
    rw [if_pos (show opens t i = true from ho)] at k
    have hl := opens_lt ho
    change i < t.length at hl
    have hcl := closing_le hl
    refine Evl.q_asg (ev_callV (t, i) (ea_cons (ev_var rfl) (ea_cons (ev_var rfl) ea_nil)) fun H2 e2 => ⟨_, _, rfl, hz, ⟨a, rfl, SqL.ex (e1.trans e2) ha⟩, rfl, hl⟩) fun H2 e2 => ?_
    have ha2 := SqL.ex (e1.trans e2) ha
    refine Evl.q_when (Evl.et_test (ev_bool (ev_eqI (ev_var rfl) (ev_lenX (ev_var rfl) ha2)) (cast_eq _ _))) (fun hc H3 e3 => ?_) fun hc H3 e3 => ?_
    · rw [decide_eq_true_eq] at hc
      rw [if_pos (show closing t i = t.length from hc)] at k
      exact s_retP (evp_fault (a := 7) (b := i) (ev_var rfl) ev_c) fun v H4 e4 hv => k v H4 (((e1.trans e2).trans e3).trans e4) hv
    · rw [decide_eq_false_iff_not] at hc
      rw [if_neg (show ¬ closing t i = t.length from hc)] at k
      have ha3 := SqL.ex e3 ha2
      by_cases hin : closing t i + 1 < t.length
      · rw [bat_get hin] at k
        change ∀ v H', Ex H H' → isF K (if parts (bat t (closing t i + 1)) = true then (0, 0) else (7, closing t i + 1)) v H' → Q v H' at k
        refine Evl.q_when (b := !parts (bat t (closing t i + 1))) (Evl.et_is (Evl.et_and (Evl.et_test (ev_I0 (ev_nadd (a := closing t i) (b := 1) (ev_var rfl) ev_c) (ev_lenX (ev_var rfl) ha3))) fun _ => Evl.et_not (et_val (ev_callV (bat t (closing t i + 1)) (ea_cons (ev_bat (k := closing t i + 1) (ev_var rfl) (ev_nadd (a := closing t i) (b := 1) (ev_var rfl) ev_c) ha3 hin) ea_nil) fun _ _ => ⟨_, rfl, rfl⟩))) ?_) (fun hb H4 e4 => ?_) fun hb H4 e4 => ?_
        · rw [decide_eq_true (by omega), Bool.true_and]
        · rw [Bool.not_eq_true'] at hb
          rw [hb] at k
          exact s_retP (evp_fault (a := 7) (b := closing t i + 1) (ev_nadd (a := closing t i) (b := 1) (ev_var rfl) ev_c) ev_c) fun v H5 e5 hv => k v H5 ((((e1.trans e2).trans e3).trans e4).trans e5) hv
        · rw [Bool.not_eq_false'] at hb
          rw [hb] at k
          exact Evl.s_ret ev_c fun H5 e5 => k _ H5 ((((e1.trans e2).trans e3).trans e4).trans e5) (dNO T H5)
      · rw [List.getElem?_eq_none (show t.length ≤ closing t i + 1 by omega)] at k
        refine Evl.q_when (b := false) (Evl.et_is (Evl.et_and (b := false) (Evl.et_test (ev_I0 (ev_nadd (a := closing t i) (b := 1) (ev_var rfl) ev_c) (ev_lenX (ev_var rfl) ha3))) fun q => ?_) ?_) (fun hb H4 e4 => by cases hb) fun hb H4 e4 => ?_
        · have := of_decide_eq_true q; omega
        · rw [Bool.and_false]
        · exact Evl.s_ret ev_c fun H5 e5 => k _ H5 ((((e1.trans e2).trans e3).trans e4).trans e5) (dNO T H5)
theorem fn_quote_fault (T : Tops K mg ad) : Fn P w K mg base "quote_fault" 5 ["text"] (spP (A1 fun (t : List Nat) v H => t.length ≤ 1000 ∧ isX K t v H) fun t v H => isF K (quoteFault t) v H) := by
  refine Fn.mk' T.f_quote_fault sc_quote_fault lP1 fun cdv f A outer s H E hr => ⟨_, (pss_cons (ps_for PassesOwn.never rfl (pi_list (pe_fn (fn_starts T) (hr.mono (by decide)) (pa_cons (pv 0) pa_nil))) (pg_name (i := 1) sc_quote_fault.nd rfl (Or.inl rfl)) (pss_cons (ps_set (i := 2) sc_quote_fault.nd rfl (Or.inl rfl) (pe_fn (fn_quote_fault_at T) (hr.mono (by decide)) (pa_cons (pv 0) (pa_cons (pv 1) pa_nil))))
      (pss_one (ps_if (pt_cmpR (op_neD hr.units) (pv 2) (pe_gr T.c_NO_FAULT) (nomark _)) (pss_one (ps_ret (pv 2))) pss_nil))))
      (pss_one (ps_ret (pe_gr T.c_NO_FAULT)))), ?_⟩
  rintro vs Q ⟨t, ⟨v, rfl, hz, a, rfl, ha⟩, k⟩
  change ∀ v H', Ex H H' → isF K (firstFault ((starts t).map (quoteFaultAt t))) v H' → Q v H' at k
  have hst := (starts_le t t.length 0 (Nat.zero_le _)).1
  change ∀ x ∈ starts t, x ≤ t.length at hst
  refine Evl.q_forNLn (evl_callL t (ea_cons (ev_var rfl) ea_nil) fun H2 e2 => ⟨_, rfl, hz, a, rfl, SqL.ex e2 ha⟩)
    (fun sp i σ' H' => (Ex H H' ∧ H' sp = some (.lst (nV (starts t)))) ∧ firstFault ((starts t).map (quoteFaultAt t)) = firstFault (((starts t).drop i).map (quoteFaultAt t)) ∧ ∃ x y, σ' = [some (.ref a), x, y])
    (fun sp H2 ns e2 h2 => ⟨⟨e2, h2⟩, rfl, none, none, rfl⟩) (fun sp i σ' H' _ hh => SqL.of hh.1.2) ?_ ?_
  · rintro sp i x σ' H' hx ⟨⟨e, hs⟩, hf, y, z, rfl⟩
    obtain ⟨b, hb, rfl⟩ : ∃ b, (starts t)[i]? = some b ∧ x = .int (b : Nat) := by
      rw [nV_map] at hx
      obtain ⟨b, hb, rfl⟩ := get_map hx
      exact ⟨b, hb, rfl⟩
    rw [firstFault_drop hb] at hf
    refine q_asgP (evp_callP (t, b) (ea_cons (ev_var rfl) (ea_cons (ev_var rfl) ea_nil)) fun H2 e2 => ⟨_, _, rfl, hz, ⟨a, rfl, SqL.ex (e.trans e2) ha⟩, rfl, hst b (List.mem_of_getElem? hb)⟩) fun v H2 e2 hv => ?_
    refine Evl.s_when (Evl.et_test (ev_isfault T (ev_var rfl) hv)) (fun hb H3 e3 => ?_) fun hb H3 e3 => ?_
    · rw [Bool.not_eq_true', decide_eq_false_iff_not] at hb
      rw [if_neg hb] at hf
      refine Evl.s_ret (ev_var rfl) fun H4 e4 => k _ H4 (((e.trans e2).trans e3).trans e4) ?_
      rw [hf]
      exact Dp.ex (e3.trans e4) hv
    · rw [Bool.not_eq_false', decide_eq_true_eq] at hb
      rw [if_pos hb] at hf
      exact ⟨⟨(e.trans e2).trans e3, (e2.trans e3) _ _ hs⟩, hf, _, _, rfl⟩
  · rintro sp σ' H' ⟨⟨e, hs⟩, hf, y, z, rfl⟩
    rw [nV_len, List.drop_length] at hf
    refine Evl.s_ret ev_c fun H4 e4 => k _ H4 (e.trans e4) ?_
    rw [hf]
    exact dNO T H4
theorem nf_drop {l : List Vatdfa.Raw} {done : List (List Nat)} {i : Nat} {r : Vatdfa.Raw} (h : l[i]? = some r) : namesFault done (l.drop i) = if done.length = 5 then (5, r.place) else if (r.quoted || !VatdfBase.isName r.bytes) = true then (2, r.place) else if done.contains r.bytes = true then (4, r.place) else namesFault (done ++ [r.bytes]) (l.drop (i + 1)) := by
  obtain ⟨hl, hb⟩ := List.getElem?_eq_some_iff.mp h
  rw [List.drop_eq_getElem_cons hl, hb]
  rfl
theorem cf_drop {l : List Vatdfa.Raw} {i : Nat} {r : Vatdfa.Raw} (h : l[i]? = some r) : cellsFault (l.drop i) = if tellsCell r = true then cellsFault (l.drop (i + 1)) else (6, r.place) := by
  obtain ⟨hl, hb⟩ := List.getElem?_eq_some_iff.mp h
  rw [List.drop_eq_getElem_cons hl, hb]
  rfl
theorem rf_drop {n k : Nat} {ls : List (List Vatdfa.Raw)} {i : Nat} {l : List Vatdfa.Raw} (h : ls[i]? = some l) : rowsFault n k (ls.drop i) = if rowFault l k n = (0, 0) then rowsFault n (k + 1) (ls.drop (i + 1)) else rowFault l k n := by
  obtain ⟨hl, hb⟩ := List.getElem?_eq_some_iff.mp h
  rw [List.drop_eq_getElem_cons hl, hb]
  rfl
theorem paired_at {α β : Type} {F : α → β → Prop} : ∀ {l : List α} {ys : List β} {i : Nat} {a : α}, Paired F l ys → l[i]? = some a → ∃ y, ys[i]? = some y ∧ F a y
  | _, _, i, a, .nil, h => by simp at h
  | _, _, 0, a, .cons h _, e => by
    cases e
    exact ⟨_, rfl, h⟩
  | _, _, i + 1, a, .cons _ t, e => paired_at (i := i) t (by simpa using e)
theorem fn_names_fault (T : Tops K mg ad) : Fn P w K mg base "names_fault" 3 ["line"] (spP (A1 fun (l : List Vatdfa.Raw) v H => okL l ∧ isLn K ad H v l) fun l v H => isF K (namesFault [] l) v H) := by
  refine Fn.mk' T.f_names_fault sc_names_fault lP1 fun cdv f A outer s H E hr => ⟨_, (pss_cons (ps_set (i := 1) sc_names_fault.nd rfl (Or.inl rfl) (pe_lst pa_nil))
      (pss_cons (ps_for PassesOwn.never rfl (pi_list (pv 0)) (pg_name (i := 2) sc_names_fault.nd rfl (Or.inl rfl)) (pss_cons (ps_if (pt_cmpR op_eq (pe_callB call_len_seq (by rfl) T.b_len PySem.boot_len (pa_cons (pv 1) pa_nil)) (pe_gi T.c_MOST_COLUMNS) (nomark _)) (pss_one (ps_ret (pe_tup (pa_cons pe_int (pa_cons (pe_fld (pv 2) rfl) pa_nil))))) pss_nil)
      (pss_cons (ps_if (PW.pt (pw_or (pt_val (pe_fld (pv 2) rfl)) (pw_or1 (pt_not (pt_val (pe_fn (fn_is_name T) (hr.mono (by decide)) (pa_cons (pe_fld (pv 2) rfl) pa_nil))))))) (pss_one (ps_ret (pe_tup (pa_cons pe_int (pa_cons (pe_fld (pv 2) rfl) pa_nil))))) pss_nil)
      (pss_cons (ps_if (pt_cmpR (op_inD (hu65 hr)) (pe_fld (pv 2) rfl) (pv 1) rfl) (pss_one (ps_ret (pe_tup (pa_cons pe_int (pa_cons (pe_fld (pv 2) rfl) pa_nil))))) pss_nil)
      (pss_one (ps_expr (pe_bm PySem.F.plainAttrs_list PySem.F.slot_list_append PySem.F.type_list_append mt_append (pv 1) (pa_cons (pe_fld (pv 2) rfl) pa_nil))))))))
      (pss_one (ps_ret (pe_gr T.c_NO_FAULT))))), ?_⟩
  rintro vs Q ⟨l, ⟨v, rfl, ⟨hz, hz2⟩, q, ys, rfl, hq, hp⟩, k⟩
  change ∀ v H', Ex H H' → isF K (namesFault [] l) v H' → Q v H' at k
  refine Evl.q_asgL (Evl.el_lst ea_nil (Nat.zero_le _)) fun p H1 np e1 hp1 => ?_
  have hql : SqL K H1 q ys := SqL.of (e1 _ _ hq)
  refine Evl.q_forLn (ev_var rfl) hql
    (fun i σ' H' => Ex H H' ∧ (∃ done zs, done.length ≤ 5 ∧ H' p = some (.lst zs) ∧ DpAll K H' zs (done.map bD) ∧ namesFault [] l = namesFault done (l.drop i)) ∧ ∃ x, σ' = [some (.ref q), some (.ref p), x])
    (fun H2 e2 => ⟨e1.trans e2, ⟨[], [], Nat.zero_le _, e2 _ _ hp1, .nil, rfl⟩, none, rfl⟩) (fun i σ' H' _ hh => SqL.of (hh.1 _ _ hq)) ?_ ?_
  · rintro i x σ' H' hx ⟨e, ⟨done, zs, hd5, hzp, hzd, hn⟩, y, rfl⟩
    obtain ⟨r, hr, hpi⟩ := paired_at hp hx
    have hr2 := hz2 r (List.mem_of_getElem? hr)
    rw [nf_drop hr] at hn
    rw [hn] at k
    obtain ⟨pp, dx, b, rfl, hpp, hb⟩ := hpi.ex e
    have hzl : zs.length = done.length := by have := DpAll.len hzd; rwa [List.length_map] at this
    refine Evl.q_when (Evl.et_test (ev_bool (ev_eqI (ev_lenL (ev_var rfl) (SqL.of hzp)) ev_c) (cast_eq _ 5))) (fun hc H2 e2 => ?_) fun hc H2 e2 => ?_
    · rw [decide_eq_true_eq, hzl] at hc
      rw [if_pos hc] at k
      exact s_retP (evp_fault (a := 5) (b := r.place) (ev_place T (ev_var rfl) (e2 _ _ hpp)) ev_c) fun v H3 e3 hv => k v H3 ((e.trans e2).trans e3) hv
    · rw [decide_eq_false_iff_not, hzl] at hc
      rw [if_neg hc] at k hn
      refine Evl.q_when (Evl.et_or (et_val (ev_quoted T (ev_var rfl) (e2 _ _ hpp))) fun _ => Evl.et_not (et_val (ev_callV r.bytes (ea_cons (ev_said T (ev_var rfl) (e2 _ _ hpp)) ea_nil) fun H3 e3 => ⟨_, rfl, hr2, b, rfl, SqT.ex (e2.trans e3) hb⟩))) (fun hc2 H3 e3 => ?_) fun hc2 H3 e3 => ?_
      · rw [if_pos hc2] at k
        exact s_retP (evp_fault (a := 2) (b := r.place) (ev_place T (ev_var rfl) ((e2.trans e3) _ _ hpp)) ev_c) fun v H4 e4 hv => k v H4 (((e.trans e2).trans e3).trans e4) hv
      · rw [if_neg (by rw [hc2]; decide)] at k hn
        have e23 := e2.trans e3
        refine Evl.q_when (Evl.et_test (ev_inD (evp_dp (ev_said T (ev_var rfl) (e23 _ _ hpp)) (isB_dp.mp ⟨b, rfl, SqT.ex e23 hb⟩)) (evp_dp (ev_var rfl) (dp_list.mpr ⟨p, zs, rfl, SqL.of (e23 _ _ hzp), DpAll.ex e23 hzd⟩)) (shaped_bD _) (shaped_list lay_bD depth_bD (by decide) _) (any_bD _ _))) (fun hc3 H4 e4 => ?_) fun hc3 H4 e4 => ?_
        · rw [if_pos hc3] at k
          exact s_retP (evp_fault (a := 4) (b := r.place) (ev_place T (ev_var rfl) ((e23.trans e4) _ _ hpp)) ev_c) fun v H5 e5 hv => k v H5 (((e.trans e23).trans e4).trans e5) hv
        · rw [if_neg (by rw [hc3]; decide)] at hn
          have e24 := e23.trans e4
          refine Evl.s_app (e24 _ _ hzp) (ev_var rfl) (ev_said T (ev_var rfl) (e24 _ _ hpp)) (by omega) fun H5 e5 => ?_
          have e25 := e24.trans e5
          refine ⟨Ex.mut (e.trans e25) np, ⟨done ++ [r.bytes], _, by rw [List.length_append, List.length_singleton]; omega, upd_same, ?_, hn⟩, _, rfl⟩
          rw [List.map_append]
          exact DpAll.app (stabAll (stab_map stab_bD _) (e25 _ _ hzp) (DpAll.ex e25 hzd)) (DpAll.one (stab_bD _ _ _ _ _ _ (e25 _ _ hzp) (isB_dp.mp ⟨b, rfl, SqT.ex e25 hb⟩)))
  · rintro σ' H' ⟨e, ⟨done, zs, hd5, hzp, hzd, hn⟩, y, rfl⟩
    rw [Paired.length hp, List.drop_length] at hn
    refine Evl.s_ret ev_c fun H2 e2 => k _ H2 (e.trans e2) ?_
    rw [hn]
    exact dNO T H2
theorem fn_row_fault (T : Tops K mg ad) : Fn P w K mg base "row_fault" 5 ["line", "row", "columns"] (spP (A3 fun (x : List Vatdfa.Raw × Nat × Nat) v u s H => okL x.1 ∧ x.1 ≠ [] ∧ isLn K ad H v x.1 ∧ u = .int (x.2.1 : Nat) ∧ s = .int (x.2.2 : Nat)) fun x v H => isF K (rowFault x.1 x.2.1 x.2.2) v H) := by
  refine Fn.mk' T.f_row_fault sc_row_fault lP3 fun cdv f A outer s H E hr => ⟨_, (pss_cons (ps_if (pt_cmpR op_ge (pv 1) (pe_gi T.c_MOST_ROWS) (nomark _)) (pss_one (ps_ret (pe_tup (pa_cons pe_int (pa_cons (pe_fld (pe_ix ix_list (pv 0) pe_int (fun _ _ => rfl)) rfl) pa_nil))))) pss_nil)
      (pss_cons (ps_if (pt_cmpR op_ne (pe_callB call_len_seq (by rfl) T.b_len PySem.boot_len (pa_cons (pv 0) pa_nil)) (pv 2) (nomark _)) (pss_one (ps_ret (pe_tup (pa_cons pe_int (pa_cons (pe_fld (pe_ix ix_list (pv 0) pe_int (fun _ _ => rfl)) rfl) pa_nil))))) pss_nil)
      (pss_cons (ps_for PassesOwn.never rfl (pi_list (pv 0)) (pg_name (i := 3) sc_row_fault.nd rfl (Or.inl rfl)) (pss_one (ps_if (pt_not (pt_val (pe_fn (fn_tells_cell T) (hr.mono (by decide)) (pa_cons (pv 3) pa_nil)))) (pss_one (ps_ret (pe_tup (pa_cons pe_int (pa_cons (pe_fld (pv 3) rfl) pa_nil))))) pss_nil)))
      (pss_one (ps_ret (pe_gr T.c_NO_FAULT)))))), ?_⟩
  rintro vs Q ⟨⟨l, n, c⟩, ⟨v, u, s, rfl, ⟨hz, hz2⟩, hne, ⟨q, ys, rfl, hq, hp⟩, rfl, rfl⟩, k⟩
  change ∀ v H', Ex H H' → isF K (rowFault l n c) v H' → Q v H' at k
  change Paired (isPi K ad H) ys l at hp
  change ∀ r ∈ l, r.bytes.length ≤ 2000 at hz2
  change l.length ≤ 2000 at hz
  change l ≠ [] at hne
  unfold rowFault at k
  have hhead : ∀ (σ' : L2.St) (H' : Hp), Ex H H' → σ'[0]? = some (some (.ref q)) → Ev (tFld K (tOp (rIxL K) (tVar 0) (tC (.int 0))) "place") σ' H' (.int (headPlace l : Nat)) := by
    intro σ' H' e h0
    match l, ys, hp, hne with
    | r :: l, y :: ys, .cons hy _, _ =>
      obtain ⟨pp, dx, b, rfl, hpp, hb⟩ := hy.ex e
      exact ev_place T (ev_ixL (ev_var h0) ev_c (SqL.of (e _ _ hq)) (atI_nat (j := 0) rfl)) hpp
    | [], _, _, h => exact absurd rfl h
  refine Evl.q_when (Evl.et_test (ev_I0 (ev_var rfl) ev_c)) (fun hc H1 e1 => ?_) fun hc H1 e1 => ?_
  · rw [decide_eq_true_eq] at hc
    rw [if_pos (by change (12 : Int) ≤ (n : Int) at hc; omega)] at k
    exact s_retP (evp_fault (a := 5) (hhead _ _ e1 rfl) ev_c) fun v H2 e2 hv => k v H2 (e1.trans e2) hv
  · rw [decide_eq_false_iff_not] at hc
    rw [if_neg (by change ¬ (12 : Int) ≤ (n : Int) at hc; omega)] at k
    refine Evl.q_when (Evl.et_test (ev_neI (ev_lenL (ev_var rfl) (SqL.of (e1 _ _ hq))) (ev_var rfl))) (fun hd H2 e2 => ?_) fun hd H2 e2 => ?_
    · rw [Bool.not_eq_true', decide_eq_false_iff_not, Paired.length hp] at hd
      rw [if_pos (by change ¬ (l.length : Int) = (c : Int) at hd; omega)] at k
      exact s_retP (evp_fault (a := 3) (hhead _ _ (e1.trans e2) rfl) ev_c) fun v H3 e3 hv => k v H3 ((e1.trans e2).trans e3) hv
    · rw [Bool.not_eq_false', decide_eq_true_eq, Paired.length hp] at hd
      rw [if_neg (by change (l.length : Int) = (c : Int) at hd; omega)] at k
      have e12 := e1.trans e2
      refine Evl.q_forLn (ev_var rfl) (SqL.of (e12 _ _ hq))
        (fun i σ' H' => Ex H H' ∧ cellsFault l = cellsFault (l.drop i) ∧ ∃ x, σ' = [some (.ref q), some (.int (n : Nat)), some (.int (c : Nat)), x])
        (fun H3 e3 => ⟨e12.trans e3, rfl, none, rfl⟩) (fun i σ' H' _ hh => SqL.of (hh.1 _ _ hq)) ?_ ?_
      · rintro i x σ' H' hx ⟨e, hn, y, rfl⟩
        obtain ⟨r, hr, hpi⟩ := paired_at hp hx
        rw [cf_drop hr] at hn
        have hpe := hpi.ex e
        refine Evl.s_when (Evl.et_not (et_val (ev_callV r (ea_cons (ev_var rfl) ea_nil) fun H3 e3 => ⟨_, rfl, hz2 r (List.mem_of_getElem? hr), hpe.ex e3⟩))) (fun ht H3 e3 => ?_) fun ht H3 e3 => ?_
        · rw [Bool.not_eq_true'] at ht
          rw [if_neg (by rw [ht]; decide)] at hn
          rw [hn] at k
          obtain ⟨pp, dx, b, rfl, hpp, hb⟩ := hpe
          exact s_retP (evp_fault (a := 6) (b := r.place) (ev_place T (ev_var rfl) (e3 _ _ hpp)) ev_c) fun v H4 e4 hv => k v H4 ((e.trans e3).trans e4) hv
        · rw [Bool.not_eq_false'] at ht
          rw [if_pos ht] at hn
          exact ⟨e.trans e3, hn, _, rfl⟩
      · rintro σ' H' ⟨e, hn, y, rfl⟩
        rw [Paired.length hp, List.drop_length] at hn
        refine Evl.s_ret ev_c fun H4 e4 => k _ H4 (e.trans e4) ?_
        rw [hn]
        exact dNO T H4
theorem fn_lines_fault (T : Tops K mg ad) : Fn P w K mg base "lines_fault" 6 ["lines"] (spP (A1 fun (ls : List (List Vatdfa.Raw)) v H => ls.length ≤ 2000 ∧ ls ≠ [] ∧ (∀ l ∈ ls, okL l ∧ l ≠ []) ∧ isLs K ad H v ls) fun ls v H => isF K (linesFault ls) v H) := by
  refine Fn.mk' T.f_lines_fault sc_lines_fault lP1 fun cdv f A outer s H E hr => ⟨_, (pss_cons (ps_set (i := 1) sc_lines_fault.nd rfl (Or.inl rfl) (pe_fn (fn_names_fault T) (hr.mono (by decide)) (pa_cons (pe_ix ix_list (pv 0) pe_int (fun _ _ => rfl)) pa_nil)))
      (pss_cons (ps_if (pt_cmpR (op_neD hr.units) (pv 1) (pe_gr T.c_NO_FAULT) (nomark _)) (pss_one (ps_ret (pv 1))) pss_nil)
      (pss_cons (ps_for PassesOwn.never rfl (pi_range2 rfl T.b_range (pa_cons pe_int (pa_cons (pe_callB call_len_seq (by rfl) T.b_len PySem.boot_len (pa_cons (pv 0) pa_nil)) pa_nil))) (pg_name (i := 2) sc_lines_fault.nd rfl (Or.inl rfl)) (pss_cons (ps_set (i := 1) sc_lines_fault.nd rfl (Or.inl rfl) (pe_fn (fn_row_fault T) (hr.mono (by decide)) (pa_cons (pe_ix ix_list (pv 0) (pv 2) (fun _ _ => rfl)) (pa_cons (pe_op op_sub (pv 2) pe_int) (pa_cons (pe_callB call_len_seq (by rfl) T.b_len PySem.boot_len (pa_cons (pe_ix ix_list (pv 0) pe_int (fun _ _ => rfl)) pa_nil)) pa_nil)))))
      (pss_one (ps_if (pt_cmpR (op_neD hr.units) (pv 1) (pe_gr T.c_NO_FAULT) (nomark _)) (pss_one (ps_ret (pv 1))) pss_nil))))
      (pss_one (ps_ret (pe_gr T.c_NO_FAULT)))))), ?_⟩
  rintro vs Q ⟨ls, ⟨v, rfl, hz, hne, hok, p, vs, rfl, hp, hpl⟩, k⟩
  change ∀ v H', Ex H H' → isF K (linesFault ls) v H' → Q v H' at k
  unfold linesFault at k
  match ls, vs, hpl, hne with
  | [], _, _, h => exact absurd rfl h
  | h :: r, v0 :: vs, .cons hh hr, _ =>
    change ∀ v H', Ex H H' → isF K (if namesFault [] h = (0, 0) then rowsFault h.length 0 r else namesFault [] h) v H' → Q v H' at k
    have h0 : ∀ (σ' : L2.St) (H' : Hp), Ex H H' → σ'[0]? = some (some (.ref p)) → Ev (tOp (rIxL K) (tVar 0) (tC (.int 0))) σ' H' v0 := fun σ' H' e hσ => ev_ixL (ev_var hσ) ev_c (SqL.ex e hp) (atI_nat (j := 0) rfl)
    refine q_asgP (evp_callP h (ea_cons (h0 _ _ (Ex.refl H) rfl) ea_nil) fun H1 e1 => ⟨_, rfl, (hok h List.mem_cons_self).1, hh.ex e1⟩) fun v H1 e1 hv => ?_
    refine Evl.q_when (Evl.et_test (ev_isfault T (ev_var rfl) hv)) (fun hb H2 e2 => ?_) fun hb H2 e2 => ?_
    · rw [Bool.not_eq_true', decide_eq_false_iff_not] at hb
      rw [if_neg hb] at k
      exact Evl.s_ret (ev_var rfl) fun H3 e3 => k _ H3 ((e1.trans e2).trans e3) (Dp.ex (e2.trans e3) hv)
    · rw [Bool.not_eq_false', decide_eq_true_eq] at hb
      rw [if_pos hb] at k
      have hlen : (v0 :: vs).length = r.length + 1 := by rw [List.length_cons, Paired.length hr]
      change r.length + 1 ≤ 2000 at hz
      have e12 := e1.trans e2
      refine Evl.q_forR2 (lo := (1 : Nat)) (n := (r.length + 1 : Nat)) (ea_cons ev_c (ea_cons (ev_int (ev_lenL (ev_var rfl) (SqL.ex e12 hp)) (by rw [hlen])) ea_nil)) (by omega)
        (fun i σ' H' => Ex H H' ∧ rowsFault h.length 0 r = rowsFault h.length i (r.drop i) ∧ ∃ x y, σ' = [some (.ref p), x, y])
        (fun H3 e3 => ⟨e12.trans e3, rfl, _, none, rfl⟩) ?_ ?_
      · rintro i σ' H' hi ⟨e, hn, x, y, rfl⟩
        have hir : i < r.length := by omega
        obtain ⟨l, hl⟩ : ∃ l, r[i]? = some l := ⟨_, List.getElem?_eq_getElem hir⟩
        obtain ⟨lv, hlv, hll⟩ := paired_get hr hl
        rw [rf_drop hl] at hn
        obtain ⟨qh, yh, hqv, hqh, hph⟩ := hh.ex e
        have hc : (((1 : Nat) : Int) + (i : Int)) = ((1 + i : Nat) : Int) := by omega
        rw [hc]
        have hol := hok l (List.mem_cons_of_mem _ (List.mem_of_getElem? hl))
        subst hqv
        refine q_asgP (evp_callP (l, i, h.length) (ea_cons (ev_ixL (v := lv) (ev_var rfl) (ev_var rfl) (SqL.ex e hp) (atI_nat (j := 1 + i) (by rw [Nat.add_comm]; exact hlv))) (ea_cons (ev_int (ev_I0 (ev_var rfl) ev_c) (show (((1 + i : Nat) : Int) - 1) = (i : Nat) by omega)) (ea_cons (ev_int (ev_lenL (h0 _ _ e rfl) (SqL.of hqh)) (by rw [Paired.length hph])) ea_nil))) fun H3 e3 => ⟨_, _, _, rfl, hol.1, hol.2, hll.ex (e.trans e3), rfl, rfl⟩) fun v H3 e3 hv3 => ?_
        refine Evl.s_when (Evl.et_test (ev_isfault T (ev_var rfl) hv3)) (fun hb H4 e4 => ?_) fun hb H4 e4 => ?_
        · rw [Bool.not_eq_true', decide_eq_false_iff_not] at hb
          rw [if_neg hb] at hn
          refine Evl.s_ret (ev_var rfl) fun H5 e5 => k _ H5 (((e.trans e3).trans e4).trans e5) ?_
          rw [hn]
          exact Dp.ex (e4.trans e5) hv3
        · rw [Bool.not_eq_false', decide_eq_true_eq] at hb
          rw [if_pos hb] at hn
          exact ⟨(e.trans e3).trans e4, hn, _, _, rfl⟩
      · rintro σ' H' ⟨e, hn, x, y, rfl⟩
        have hc : (((r.length + 1 : Nat) : Int) - ((1 : Nat) : Int)).toNat = r.length := by omega
        rw [hc, List.drop_length] at hn
        refine Evl.s_ret ev_c fun H4 e4 => k _ H4 (e.trans e4) ?_
        rw [hn]
        exact dNO T H4
theorem fn_text_fault (T : Tops K mg ad) : Fn P w K mg base "text_fault" 7 ["text"] (spP (A1 fun (t : List Nat) v H => t.length ≤ 1000 ∧ isX K t v H) fun t v H => isF K (textFault t) v H) := by
  refine Fn.mk' T.f_text_fault sc_text_fault lP1 fun cdv f A outer s H E hr => ⟨_, (pss_cons (ps_set (i := 1) sc_text_fault.nd rfl (Or.inl rfl) (pe_fn (fn_byte_fault T) (hr.mono (by decide)) (pa_cons (pv 0) pa_nil)))
      (pss_cons (ps_if (pt_cmpR (op_neD hr.units) (pv 1) (pe_gr T.c_NO_FAULT) (nomark _)) (pss_one (ps_ret (pv 1))) pss_nil)
      (pss_cons (ps_set (i := 1) sc_text_fault.nd rfl (Or.inl rfl) (pe_fn (fn_quote_fault T) (hr.mono (by decide)) (pa_cons (pv 0) pa_nil)))
      (pss_cons (ps_if (pt_cmpR (op_neD hr.units) (pv 1) (pe_gr T.c_NO_FAULT) (nomark _)) (pss_one (ps_ret (pv 1))) pss_nil)
      (pss_one (ps_ret (pe_fn (fn_lines_fault T) (hr.mono (by decide)) (pa_cons (pe_fn (fn_lines_of T) (hr.mono (by decide)) (pa_cons (pv 0) pa_nil)) pa_nil)))))))), ?_⟩
  rintro vs Q ⟨t, ⟨v, rfl, hz, a, rfl, ha⟩, k⟩
  have hok := lines_ok hz
  change ∀ v H', Ex H H' → isF K (textFault t) v H' → Q v H' at k
  unfold textFault at k
  refine q_asgP (evp_callP t (ea_cons (ev_var rfl) ea_nil) fun H1 e1 => ⟨_, rfl, hz, a, rfl, SqL.ex e1 ha⟩) fun v H1 e1 hv => ?_
  refine Evl.q_when (Evl.et_test (ev_isfault T (ev_var rfl) hv)) (fun hb H2 e2 => ?_) fun hb H2 e2 => ?_
  · rw [Bool.not_eq_true', decide_eq_false_iff_not] at hb
    rw [if_neg hb] at k
    exact Evl.s_ret (ev_var rfl) fun H3 e3 => k _ H3 ((e1.trans e2).trans e3) (Dp.ex (e2.trans e3) hv)
  · rw [Bool.not_eq_false', decide_eq_true_eq] at hb
    rw [if_pos hb] at k
    have e12 := e1.trans e2
    refine q_asgP (evp_callP t (ea_cons (ev_var rfl) ea_nil) fun H3 e3 => ⟨_, rfl, hz, a, rfl, SqL.ex (e12.trans e3) ha⟩) fun v H3 e3 hv => ?_
    refine Evl.q_when (Evl.et_test (ev_isfault T (ev_var rfl) hv)) (fun hb H4 e4 => ?_) fun hb H4 e4 => ?_
    · rw [Bool.not_eq_true', decide_eq_false_iff_not] at hb
      rw [if_neg hb] at k
      exact Evl.s_ret (ev_var rfl) fun H5 e5 => k _ H5 (((e12.trans e3).trans e4).trans e5) (Dp.ex (e4.trans e5) hv)
    · rw [Bool.not_eq_false', decide_eq_true_eq] at hb
      rw [if_pos hb] at k
      have e14 := (e12.trans e3).trans e4
      exact s_retP (evp_callPP (linesOf t) (eap_one (evp_F (evf_callN t (ea_cons (ev_var rfl) ea_nil) fun H5 e5 => ⟨_, rfl, hz, a, rfl, SqL.ex (e14.trans e5) ha⟩))) fun vs H5 e5 ⟨v, h1, p, h2, ws, h3, h4⟩ => ⟨v, h1, hok.1, lines_some t, fun l hl => ⟨hok.2 l hl, linesOf_ne t l hl⟩, p, ws, h2, SqL.of h3, h4⟩) fun v H5 e5 hv => k v H5 (e14.trans e5) hv
end
end Tx
end

section
set_option Elab.async false
set_option linter.all false
set_option maxRecDepth 100000
set_option maxHeartbeats 4000000
set_option exponentiation.threshold 100000
namespace Tx
open PySem PySem.Spec PyProof.Rows L2
open Evl (Ex Ev EvL EvU EvT EvA EvO RV ev_c ev_var ea_nil ea_cons eo_none eo_some)
open VatdfBase (Cell Table)
/-! ### columns asked -/
def natsOf (l : List Int) : List Nat := l.map Int.toNat
def VatdfaPlace (t : Table) (c : Int) : Option Nat := Vatdfa.placeOf c (t.names.length - 1)
theorem place_col {t : Table} (hw : Wf t) (c : Int) : VatdfaPlace t c = if isCol t c = true then some c.toNat else none := by
  have h1 := hw.n1
  unfold VatdfaPlace Vatdfa.placeOf isCol Vatdfa.int
  by_cases h : 0 ≤ c ∧ c < (t.names.length : Int)
  · rw [if_pos (by omega), if_pos (by rw [decide_eq_true h.1, decide_eq_true h.2]; rfl)]
  · rw [if_neg (by omega), if_neg]
    rw [Bool.and_eq_true, decide_eq_true_eq, decide_eq_true_eq]
    exact h
theorem onCol_is {t : Table} (hw : Wf t) (c : Int) (f : Nat → List Int) : Vatdfa.onCol t c f = if isCol t c = true then f c.toNat else [-4] := by
  unfold Vatdfa.onCol
  have := place_col hw c
  unfold VatdfaPlace at this
  rw [this]
  cases isCol t c <;> rfl
theorem isCol_lt {t : Table} {c : Int} (h : isCol t c = true) : c.toNat < t.names.length ∧ c = (c.toNat : Int) := by
  unfold isCol at h
  rw [Bool.and_eq_true, decide_eq_true_eq, decide_eq_true_eq] at h
  omega
theorem places_is {t : Table} (hw : Wf t) : ∀ l : List Int, (l.mapM fun z => Vatdfa.placeOf z (t.names.length - 1)) = if l.all (isCol t) = true then some (natsOf l) else none
  | [] => rfl
  | c :: l => by
    have hc := place_col hw c
    unfold VatdfaPlace at hc
    rw [List.mapM_cons, hc, places_is hw l, List.all_cons]
    cases h1 : isCol t c
    · rfl
    · cases h2 : l.all (isCol t)
      · rfl
      · rfl
theorem colsGood_is (t : Table) (l : List Int) : colsGood t l = (l.all (isCol t) && VatdfBase.apart (natsOf l)) := by
  have tk : ∀ k, k < l.length → (l.take (k + 1)).all (isCol t) = true → (natsOf l)[k]? = some (iat l k).toNat ∧ ((natsOf l).take k).contains (iat l k).toNat = (l.take k).contains (iat l k) := by
    intro k hk ha
    refine ⟨by unfold natsOf; rw [List.getElem?_map, iat_get hk]; rfl, ?_⟩
    rw [take_succ_get (iat_get hk), List.all_append, Bool.and_eq_true] at ha
    have hz : isCol t (iat l k) = true := by simpa using ha.2
    have h1 := isCol_lt hz
    unfold natsOf
    rw [← List.map_take, Bool.eq_iff_iff, List.contains_iff_mem, List.contains_iff_mem, List.mem_map]
    constructor
    · rintro ⟨x, hx, e⟩
      have h2 := isCol_lt (List.all_eq_true.mp ha.1 x hx)
      have : x = iat l k := by omega
      rw [← this]
      exact hx
    · intro hx
      exact ⟨_, hx, rfl⟩
  unfold colsGood colsTo VatdfBase.apart
  rw [Bool.eq_iff_iff, Bool.and_eq_true, List.all_eq_true, List.all_eq_true, List.all_eq_true]
  constructor
  · intro h
    have hall : ∀ x ∈ l, isCol t x = true := by
      intro x hx
      obtain ⟨k, hk⟩ := List.mem_iff_getElem?.mp hx
      have hkl := (List.getElem?_eq_some_iff.mp hk).1
      have := h k (List.mem_range.mpr hkl)
      rw [Bool.and_eq_true] at this
      rw [iat_get hkl] at hk
      rw [← Option.some.inj hk]
      exact this.1
    refine ⟨hall, ?_⟩
    rintro ⟨n, k⟩ hp
    have hk := List.mem_zipIdx_iff_getElem?.mp hp
    have hkl : k < l.length := by
      have := (List.getElem?_eq_some_iff.mp hk).1
      unfold natsOf at this
      rwa [List.length_map] at this
    obtain ⟨g1, g2⟩ := tk k hkl (List.all_eq_true.mpr fun x hx => hall x (List.mem_of_mem_take hx))
    have hk' : (natsOf l)[k]? = some n := hk
    rw [g1] at hk'
    cases hk'
    have := h k (List.mem_range.mpr hkl)
    rw [Bool.and_eq_true] at this
    show (!((natsOf l).take k).contains (iat l k).toNat) = true
    rw [g2]
    exact this.2
  · rintro ⟨h1, h2⟩ k hk
    have hkl := List.mem_range.mp hk
    obtain ⟨g1, g2⟩ := tk k hkl (List.all_eq_true.mpr fun x hx => h1 x (List.mem_of_mem_take hx))
    have := h2 ((iat l k).toNat, k) (List.mem_zipIdx_iff_getElem?.mpr g1)
    change (!((natsOf l).take k).contains (iat l k).toNat) = true at this
    rw [g2] at this
    rw [Bool.and_eq_true]
    exact ⟨h1 _ (List.mem_of_getElem? (iat_get hkl)), this⟩
theorem onCols_is {t : Table} (hw : Wf t) (l : List Int) (f : List Nat → List Int) : Vatdfa.onCols t l f = if colsGood t l = true then f (natsOf l) else [-4] := by
  unfold Vatdfa.onCols
  rw [places_is hw l, colsGood_is]
  cases h1 : l.all (isCol t)
  · rfl
  · cases h2 : VatdfBase.apart (natsOf l)
    · show (if VatdfBase.apart (natsOf l) = true then _ else _) = _
      rw [h2]; rfl
    · show (if VatdfBase.apart (natsOf l) = true then _ else _) = _
      rw [h2]; rfl
theorem cols_nats {t : Table} {l : List Int} (h : colsGood t l = true) : nI (natsOf l) = l ∧ ∀ c ∈ natsOf l, c < t.names.length := by
  rw [colsGood_is, Bool.and_eq_true] at h
  have h1 := List.all_eq_true.mp h.1
  constructor
  · unfold nI natsOf
    rw [List.map_map]
    refine (List.map_congr_left fun x hx => ?_).trans (List.map_id _)
    exact (isCol_lt (h1 x hx)).2.symm
  · intro c hc
    obtain ⟨x, hx, rfl⟩ := List.mem_map.mp hc
    exact (isCol_lt (h1 x hx)).1
/-- a list just made -/
def isN (l : List Int) (v : V) (H : Hp) : Prop := ∃ a, v = .ref a ∧ H a = some (.lst (l.map V.int))
def counts (l : List Int) : List Int := (l.length : Int) :: l
def aCell (t : Table) (i c : Int) : List Int := if i < 0 ∨ Vatdfa.int t.rows.length ≤ i then [-3] else Vatdfa.onCol t c fun a => VatdfFlat.flatCell (t.cell i.toNat a)
def aColumn (t : Table) (c : Int) : List Int := Vatdfa.onCol t c fun a => colTold t a
def aSpots (x : List (Nat × Nat)) : List Int := x.flatMap fun y => [Vatdfa.int y.1, Vatdfa.int y.2]
def aFind (t : Table) (l : List Int) : List Int := match Vatdfa.cellOf l with
  | none => [-5]
  | some v => Vatdfa.int (Vatdfa.spotsOf t v).length :: aSpots (Vatdfa.spotsOf t v)
def aKey (t : Table) (l : List Int) : List Int := Vatdfa.onCols t l fun cs => match Vatdfa.firstAlike t cs with
  | none => [1]
  | some x => [0, Vatdfa.int x.1, Vatdfa.int x.2]
def aKeys (t : Table) : List Int := Vatdfa.int (Vatdfa.keys t).length :: (Vatdfa.keys t).flatMap Vatdfa.listed
def aSorted (t : Table) (l : List Int) : List Int := Vatdfa.onCols t l fun cs => Vatdfa.listed (Vatdfa.sorted t cs)
theorem sorted_len {t : Table} (cs : List Nat) (hw : Wf t) : (Vatdfa.sorted t cs).length ≤ 12 := by
  have := hw.r12
  rw [← order_is, List.length_map, List.length_mergeSort]
  unfold placed
  simp
  omega
theorem tableText_len {t : Table} (hw : Wf t) : (Vatdfa.tableText t).length ≤ 2500 := by
  have h1 := rows_flat_len hw t.rows.length
  have h2 := names_text_len hw
  rw [List.take_length] at h1
  rw [tableText_is, List.length_append, List.length_append, List.length_singleton]
  omega
theorem flatTable_len {t : Table} (hw : Wf t) : (VatdfFlat.flatTable t).length ≤ 700 := by
  have h1 := flatRows_len hw t.rows.length
  have h2 := flatNames_len hw t.names.length
  rw [List.take_length] at h1 h2
  rw [flatTable_is, List.length_append, List.length_append, List.length_cons, List.length_singleton]
  omega
theorem spots_len {t : Table} (hw : Wf t) (v : Cell) : (Vatdfa.spotsOf t v).length ≤ 60 := by
  have h1 := spotsTo_len t v t.rows.length
  rw [spots_is] at h1
  have := Nat.mul_le_mul hw.r12 hw.n5
  omega
theorem keys_ok {t : Table} (hw : Wf t) : (Vatdfa.keys t).length ≤ 32 ∧ ∀ k ∈ Vatdfa.keys t, k.length ≤ 5 := by
  have h1 := keysOf_sub t (Vatdfa.sets t.names.length) []
  have h2 := sets_len t.names.length hw.n5
  rw [List.length_nil] at h1
  have e := keys_is t
  unfold keysOf at e
  rw [e] at h1
  refine ⟨by omega, fun k hk => ?_⟩
  rcases h1.2 k hk with q | q
  · cases q
  · exact (sets_ok hw.n5 q).1
section
variable {P : Program} {w : World} {K : PySem.W.Frag} {mg : Str → Option Value} {base : Heap} {ad : Ads}
theorem evl_neg1 {σ : L2.St} {H : Hp} (i : Int) : EvL (tLst (tCons (tUn (rU fun i => .int (-i)) (tC (.int i))) tNil)) σ H ([-i].map V.int) := Evl.el_lst (ea_cons (ev_neg ev_c) ea_nil) (by show 1 ≤ 100000; decide)
theorem dNEVER (T : Tops K mg ad) (H : Hp) : Dp K H (.ref ad.NEVER) (.tuple ((twI none).map .int)) := dp_tupI.mpr ⟨_, rfl, T.d_NEVER H⟩
theorem fn_counted (T : Tops K mg ad) : Fn P w K mg base "counted" 1 ["numbers"] (spL (A1 fun (l : List Int) v H => l.length ≤ 100000 ∧ isN l v H) fun l => (counts l).map V.int) := by
  refine Fn.mk' T.f_counted sc_counted lN1 fun cdv f A outer s H E hr => ⟨_, (pss_one (ps_ret (pe_op op_cat (pe_lst (pa_cons (pe_callB call_len_seq (by rfl) T.b_len PySem.boot_len (pa_cons (pv 0) pa_nil)) pa_nil)) (pv 0)))), ?_⟩
  rintro vs Q ⟨l, ⟨v, rfl, hz, a, rfl, ha⟩, k⟩
  refine Evl.s_retL (evl_catV (Evl.el_lst (ea_cons (ev_int (ev_lenL (ev_var rfl) (SqL.of ha)) (by rw [List.length_map])) ea_nil) (by show 1 ≤ 100000; decide)) (ev_var rfl) ha (Nat.le_trans (show _ ≤ 100001 by rw [List.length_map, List.length_singleton]; omega) (by decide))) k
theorem fn_ask_cell (T : Tops K mg ad) : Fn P w K mg base "ask_cell" 3 ["table", "row", "column"] (spL (A3 fun (x : Table × Int × Int) v u s H => isTab K ad x.1 v H ∧ u = .int x.2.1 ∧ s = .int x.2.2 ∧ Wf x.1) fun x => (aCell x.1 x.2.1 x.2.2).map V.int) := by
  refine Fn.mk' T.f_ask_cell sc_ask_cell lN3 fun cdv f A outer s H E hr => ⟨_, (pss_cons (ps_if (pt_not (pt_chain op_le op_lt pe_int (pv 1) (pe_callB call_len_seq (by rfl) T.b_len PySem.boot_len (pa_cons (pe_fld (pv 0) rfl) pa_nil)))) (pss_one (ps_ret (pe_lst (pa_cons (pe_un un_neg pe_int) pa_nil)))) pss_nil)
      (pss_cons (ps_if (pt_not (pt_val (pe_fn (fn_is_column T) (hr.mono (by decide)) (pa_cons (pv 0) (pa_cons (pv 2) pa_nil))))) (pss_one (ps_ret (pe_lst (pa_cons (pe_un un_neg pe_int) pa_nil)))) pss_nil)
      (pss_one (ps_ret (pe_fn (fn_told_cell T) (hr.mono (by decide)) (pa_cons (pe_ix ix_tup (pe_ix ix_list (pe_fld (pv 0) rfl) (pv 1) (fun _ _ => rfl)) (pv 2) (fun _ _ => rfl)) pa_nil)))))), ?_⟩
  rintro vs Q ⟨⟨t, i, c⟩, ⟨v, u, s, rfl, ⟨a, ln, lr, ns, rs, rfl, h⟩, rfl, rfl, hw⟩, k⟩
  change TabAt K ad H t a ln lr ns rs at h
  change Wf t at hw
  change ∀ p H', H p = none → Ex H H' → H' p = some (.lst ((aCell t i c).map V.int)) → Q (.ref p) H' at k
  unfold aCell at k
  refine Evl.q_when (Evl.et_not (Evl.et_test (ev_leLt ev_c (ev_var rfl) (ev_lenL (ev_rows T (ev_var rfl) h) h.rl)))) (fun hb H1 e1 => ?_) fun hb H1 e1 => ?_
  · rw [Bool.not_eq_true', len_rows h] at hb
    change (decide (0 ≤ i) && decide (i < (t.rows.length : Int))) = false at hb
    rw [if_pos (by
      by_cases h0 : 0 ≤ i
      · rw [decide_eq_true h0, Bool.true_and, decide_eq_false_iff_not] at hb
        right; show (t.rows.length : Int) ≤ i; omega
      · left; omega)] at k
    exact Evl.s_retL (evl_neg1 3) fun p H2 np e2 hp => k p H2 (Evl.fresh_back e1 np) (e1.trans e2) hp
  · rw [Bool.not_eq_false', len_rows h, Bool.and_eq_true, decide_eq_true_eq, decide_eq_true_eq] at hb
    change 0 ≤ i ∧ i < (t.rows.length : Int) at hb
    rw [if_neg (by show ¬ (i < 0 ∨ (t.rows.length : Int) ≤ i); omega), onCol_is hw] at k
    refine Evl.q_when (Evl.et_not (et_val (ev_callV (t, c) (ea_cons (ev_var rfl) (ea_cons (ev_var rfl) ea_nil)) fun H2 e2 => ⟨_, _, rfl, ⟨a, ln, lr, ns, rs, rfl, h.ex (e1.trans e2)⟩, rfl⟩))) (fun hc H2 e2 => ?_) fun hc H2 e2 => ?_
    · rw [Bool.not_eq_true'] at hc
      rw [if_neg (by rw [show isCol t c = false from hc]; decide)] at k
      exact Evl.s_retL (evl_neg1 4) fun p H3 np e3 hp => k p H3 (Evl.fresh_back (e1.trans e2) np) ((e1.trans e2).trans e3) hp
    · rw [Bool.not_eq_false'] at hc
      change isCol t c = true at hc
      rw [if_pos hc] at k
      have hcl := isCol_lt hc
      obtain ⟨r, hr⟩ : ∃ r, t.rows[i.toNat]? = some r := ⟨_, List.getElem?_eq_getElem (by omega)⟩
      have h2 := h.ex (e1.trans e2)
      obtain ⟨b, xs, hb1, hb2, hb3⟩ := row_at h2 hr
      have hrm := List.mem_of_getElem? hr
      obtain ⟨cv, hcv, hcd⟩ := cell_in (c := c.toNat) hb3 (by rw [hw.rl r hrm]; exact hcl.1)
      have hi : i = (i.toNat : Int) := by omega
      refine Evl.s_retL (evl_callL (VatdfBase.cellAt r c.toNat) (ea_cons (ev_ixT (i := (c.toNat : Int)) (ev_ixL (i := (i.toNat : Int)) (ev_rows T (ev_var rfl) h2) (ev_int (ev_var rfl) hi) h2.rl (atI_nat hb1)) (ev_int (ev_var rfl) hcl.2) hb2 (atI_nat hcv)) ea_nil) fun H3 e3 => ⟨_, rfl, ?_, Dp.ex e3 hcd⟩) fun p H3 np e3 hp => k p H3 (Evl.fresh_back (e1.trans e2) np) ((e1.trans e2).trans e3) ?_
      · refine hw.rc r hrm _ ?_
        have hcr : c.toNat < r.length := by rw [hw.rl r hrm]; exact hcl.1
        unfold VatdfBase.cellAt
        rw [List.getElem?_eq_getElem hcr]
        exact List.getElem_mem hcr
      · rw [row_eq hr]
        exact hp
theorem fn_ask_column (T : Tops K mg ad) : Fn P w K mg base "ask_column" 4 ["table", "column"] (spL (A2 fun (x : Table × Int) v u H => isTab K ad x.1 v H ∧ u = .int x.2 ∧ Wf x.1) fun x => (aColumn x.1 x.2).map V.int) := by
  refine Fn.mk' T.f_ask_column sc_ask_column lN2 fun cdv f A outer s H E hr => ⟨_, (pss_cons (ps_if (pt_not (pt_val (pe_fn (fn_is_column T) (hr.mono (by decide)) (pa_cons (pv 0) (pa_cons (pv 1) pa_nil))))) (pss_one (ps_ret (pe_lst (pa_cons (pe_un un_neg pe_int) pa_nil)))) pss_nil)
      (pss_one (ps_ret (pe_fn (fn_column_told T) (hr.mono (by decide)) (pa_cons (pv 0) (pa_cons (pv 1) pa_nil)))))), ?_⟩
  rintro vs Q ⟨⟨t, c⟩, ⟨v, u, rfl, ht, rfl, hw⟩, k⟩
  change isTab K ad t v H at ht
  change Wf t at hw
  change ∀ p H', H p = none → Ex H H' → H' p = some (.lst ((aColumn t c).map V.int)) → Q (.ref p) H' at k
  unfold aColumn at k
  rw [onCol_is hw] at k
  refine Evl.q_when (Evl.et_not (et_val (ev_callV (t, c) (ea_cons (ev_var rfl) (ea_cons (ev_var rfl) ea_nil)) fun H2 e2 => ⟨_, _, rfl, ht.ex e2, rfl⟩))) (fun hc H2 e2 => ?_) fun hc H2 e2 => ?_
  · rw [Bool.not_eq_true'] at hc
    rw [if_neg (by rw [show isCol t c = false from hc]; decide)] at k
    exact Evl.s_retL (evl_neg1 4) fun p H3 np e3 hp => k p H3 (Evl.fresh_back e2 np) (e2.trans e3) hp
  · rw [Bool.not_eq_false'] at hc
    change isCol t c = true at hc
    rw [if_pos hc] at k
    have hcl := isCol_lt hc
    exact Evl.s_retL (evl_callL (t, c.toNat) (ea_cons (ev_var rfl) (ea_cons (ev_int (ev_var rfl) hcl.2) ea_nil)) fun H3 e3 => ⟨_, _, rfl, ht.ex (e2.trans e3), rfl, hcl.1, hw⟩) fun p H3 np e3 hp => k p H3 (Evl.fresh_back e2 np) (e2.trans e3) hp
theorem fn_ask_find (T : Tops K mg ad) : Fn P w K mg base "ask_find" 5 ["table", "numbers"] (spL (A2 fun (x : Table × List Int) v u H => isTab K ad x.1 v H ∧ x.2.length ≤ 1000 ∧ isL K x.2 u H ∧ Wf x.1) fun x => (aFind x.1 x.2).map V.int) := by
  refine Fn.mk' T.f_ask_find sc_ask_find lN2 fun cdv f A outer s H E hr => ⟨_, (pss_cons (ps_set (i := 2) sc_ask_find.nd rfl (Or.inl rfl) (pe_fn (fn_taken_cell T) (hr.mono (by decide)) (pa_cons (pv 1) pa_nil)))
      (pss_cons (ps_if (pt_cmpR op_isN (pv 2) pe_non (nomark _)) (pss_one (ps_ret (pe_lst (pa_cons (pe_un un_neg pe_int) pa_nil)))) pss_nil)
      (pss_cons (ps_set (i := 3) sc_ask_find.nd rfl (Or.inl rfl) (pe_fn (fn_found T) (hr.mono (by decide)) (pa_cons (pv 0) (pa_cons (pv 2) pa_nil))))
      (pss_cons (ps_set (i := 4) sc_ask_find.nd rfl (Or.inl rfl) (pe_lst (pa_cons (pe_callB call_len_seq (by rfl) T.b_len PySem.boot_len (pa_cons (pv 3) pa_nil)) pa_nil)))
      (pss_cons (ps_for PassesOwn.never rfl (pi_list (pv 3)) (pg_name (i := 5) sc_ask_find.nd rfl (Or.inl rfl)) (pss_one (ps_expr (pe_bm PySem.F.plainAttrs_list PySem.F.slot_list_extend PySem.F.type_list_extend mt_extend (pv 4) (pa_cons (pe_lst (pa_cons (pe_ix ix_tup (pv 5) pe_int (fun _ _ => rfl)) (pa_cons (pe_ix ix_tup (pv 5) pe_int (fun _ _ => rfl)) pa_nil))) pa_nil)))))
      (pss_one (ps_ret (pv 4)))))))), ?_⟩
  rintro vs Q ⟨⟨t, l⟩, ⟨v, u, rfl, ht, hz, hl, hw⟩, k⟩
  change isTab K ad t v H at ht
  change Wf t at hw
  change l.length ≤ 1000 at hz
  change isL K l u H at hl
  change ∀ p H', H p = none → Ex H H' → H' p = some (.lst ((aFind t l).map V.int)) → Q (.ref p) H' at k
  unfold aFind at k
  rw [← takenCell_is] at k
  refine q_asgP (evp_callP l (ea_cons (ev_var rfl) ea_nil) fun H1 e1 => ⟨_, rfl, hz, hl.ex e1⟩) fun cv H1 e1 hcv => ?_
  cases htc : takenCell l with
  | none =>
    rw [htc] at hcv k
    change cv = .non at hcv
    subst hcv
    refine Evl.q_when (Evl.et_test (ev_isN (ev_var rfl) (b := true) rfl)) (fun hb H2 e2 => ?_) fun hb => by cases hb
    exact Evl.s_retL (evl_neg1 5) fun p H3 np e3 hp => k p H3 (Evl.fresh_back (e1.trans e2) np) ((e1.trans e2).trans e3) hp
  | some c =>
    rw [htc] at hcv k
    change Dp K H1 cv (cD c) at hcv
    have hnn : decide (cv = V.non) = false := by
      obtain ⟨a, rfl, _⟩ := dp_cD.mp hcv
      rfl
    refine Evl.q_when (Evl.et_test (ev_isN (ev_var rfl) hnn)) (fun hb => by cases hb) fun hb H2 e2 => ?_
    have hsp := spots_len hw c
    refine q_asgF (evf_callN (t, c) (ea_cons (ev_var rfl) (ea_cons (ev_var rfl) ea_nil)) fun H3 e3 => ⟨_, _, rfl, ht.ex ((e1.trans e2).trans e3), Dp.ex (e2.trans e3) hcv, hw⟩) fun q H3 nq e3 ⟨ys, hq, hqd⟩ => ?_
    change DpAll K H3 ys ((Vatdfa.spotsOf t c).map pD) at hqd
    have hyl : ys.length = (Vatdfa.spotsOf t c).length := by have := DpAll.len hqd; rwa [List.length_map] at this
    refine Evl.q_asgL (Evl.el_lst (ea_cons (ev_int (ev_lenL (ev_var rfl) (SqL.of hq)) (by rw [hyl])) ea_nil) (by show 1 ≤ 100000; decide)) fun p H4 np e4 hp => ?_
    have e03 := (e1.trans e2).trans e3
    have hqp : q ≠ p := ne_of_none hq np
    refine Evl.q_forLn (ev_var rfl) (SqL.of (e4 _ _ hq))
      (fun i σ' H' => Ex H H' ∧ (H' q = some (.lst ys) ∧ DpAll K H' ys ((Vatdfa.spotsOf t c).map pD)) ∧ H' p = some (.lst ((Vatdfa.int (Vatdfa.spotsOf t c).length :: aSpots ((Vatdfa.spotsOf t c).take i)).map V.int)) ∧ ∃ x, σ' = [some v, some u, some cv, some (.ref q), some (.ref p), x])
      (fun H5 e5 => ⟨(e03.trans e4).trans e5, ⟨(e4.trans e5) _ _ hq, DpAll.ex (e4.trans e5) hqd⟩, e5 _ _ hp, none, rfl⟩) (fun i σ' H' _ hh => SqL.of hh.2.1.1) ?_ ?_
    · rintro i x σ' H' hx ⟨e, ⟨hq', hqd'⟩, hp', y, rfl⟩
      obtain ⟨d, hd1, hd2⟩ := DpAll.at hqd' hx
      obtain ⟨s, hs, rfl⟩ := get_map hd1
      obtain ⟨b, rfl, hb2⟩ := dp_tupI.mp hd2
      have hal : (aSpots ((Vatdfa.spotsOf t c).take i)).length ≤ 120 := by
        have h1 := flat_len (fun y : Nat × Nat => [Vatdfa.int y.1, Vatdfa.int y.2]) 2 ((Vatdfa.spotsOf t c).take i) fun _ _ => Nat.le_refl _
        have h2 : ((Vatdfa.spotsOf t c).take i).length ≤ 60 := by rw [List.length_take]; omega
        unfold aSpots
        omega
      refine s_ext hp' (ev_var rfl) (evl_P (Evl.el_lst (ea_cons (ev_ixT (v := .int (s.1 : Nat)) (ev_var rfl) ev_c hb2 (atI_nat (j := 0) rfl)) (ea_cons (ev_ixT (v := .int (s.2 : Nat)) (ev_var rfl) ev_c hb2 (atI_nat (j := 1) rfl)) ea_nil)) (by show 2 ≤ 100000; decide))) ?_ fun H5 e5 => ⟨Ex.mut (e.trans e5) (Evl.fresh_back e03 np), ⟨by rw [upd_ne hqp]; exact e5 _ _ hq', stabAll (stab_map stab_pD _) (e5 _ _ hp') (DpAll.ex e5 hqd')⟩, ?_, _, rfl⟩
      · rw [List.length_map, List.length_cons]
        exact Evl.sz_of (by show _ + 1 + 2 ≤ 100000; omega)
      · rw [upd_same, take_succ_get hs]
        unfold aSpots
        rw [List.flatMap_append]
        simp [Vatdfa.int]
    · rintro σ' H' ⟨e, _, hp', y, rfl⟩
      rw [hyl, List.take_length] at hp'
      exact Evl.s_ret (ev_var rfl) fun H5 e5 => k p H5 (Evl.fresh_back e03 np) (e.trans e5) (e5 _ _ hp')
theorem fn_ask_key (T : Tops K mg ad) : Fn P w K mg base "ask_key" 4 ["table", "columns"] (spL (A2 fun (x : Table × List Int) v u H => isTab K ad x.1 v H ∧ x.2.length ≤ 1000 ∧ isL K x.2 u H ∧ Wf x.1) fun x => (aKey x.1 x.2).map V.int) := by
  refine Fn.mk' T.f_ask_key sc_ask_key lN2 fun cdv f A outer s H E hr => ⟨_, (pss_cons (ps_if (pt_not (pt_val (pe_fn (fn_columns_good T) (hr.mono (by decide)) (pa_cons (pv 0) (pa_cons (pv 1) pa_nil))))) (pss_one (ps_ret (pe_lst (pa_cons (pe_un un_neg pe_int) pa_nil)))) pss_nil)
      (pss_cons (ps_set (i := 2) sc_ask_key.nd rfl (Or.inl rfl) (pe_fn (fn_twice T) (hr.mono (by decide)) (pa_cons (pv 0) (pa_cons (pv 1) pa_nil))))
      (pss_cons (ps_if (pt_cmpR (op_eqD hr.units) (pv 2) (pe_gr T.c_NEVER) (nomark _)) (pss_one (ps_ret (pe_lst (pa_cons pe_int pa_nil)))) pss_nil)
      (pss_one (ps_ret (pe_lst (pa_cons pe_int (pa_cons (pe_ix ix_tup (pv 2) pe_int (fun _ _ => rfl)) (pa_cons (pe_ix ix_tup (pv 2) pe_int (fun _ _ => rfl)) pa_nil))))))))), ?_⟩
  rintro vs Q ⟨⟨t, l⟩, ⟨v, u, rfl, ht, hz, hl, hw⟩, k⟩
  change isTab K ad t v H at ht
  change Wf t at hw
  change l.length ≤ 1000 at hz
  change isL K l u H at hl
  change ∀ p H', H p = none → Ex H H' → H' p = some (.lst ((aKey t l).map V.int)) → Q (.ref p) H' at k
  unfold aKey at k
  rw [onCols_is hw] at k
  refine Evl.q_when (Evl.et_not (et_val (ev_callV (t, l) (ea_cons (ev_var rfl) (ea_cons (ev_var rfl) ea_nil)) fun H2 e2 => ⟨_, _, rfl, ht.ex e2, hz, hl.ex e2⟩))) (fun hc H2 e2 => ?_) fun hc H2 e2 => ?_
  · rw [Bool.not_eq_true'] at hc
    rw [if_neg (by rw [show colsGood t l = false from hc]; decide)] at k
    exact Evl.s_retL (evl_neg1 4) fun p H3 np e3 hp => k p H3 (Evl.fresh_back e2 np) (e2.trans e3) hp
  · rw [Bool.not_eq_false'] at hc
    change colsGood t l = true at hc
    rw [if_pos hc] at k
    obtain ⟨hn, hlt⟩ := cols_nats hc
    have hnl : (natsOf l).length ≤ 1000 := by unfold natsOf; rw [List.length_map]; exact hz
    refine q_asgP (evp_callP (t, natsOf l) (ea_cons (ev_var rfl) (ea_cons (ev_var rfl) ea_nil)) fun H3 e3 => ⟨_, _, rfl, ht.ex (e2.trans e3), by show isL K (nI (natsOf l)) u H3; rw [hn]; exact hl.ex (e2.trans e3), hw, hnl, hlt⟩) fun rv H3 e3 hrv => ?_
    change Dp K H3 rv (.tuple ((twI (Vatdfa.firstAlike t (natsOf l))).map .int)) at hrv
    refine Evl.q_when (Evl.et_test (ev_eqD (evp_dp (ev_var rfl) hrv) (evp_dp ev_c (dNEVER T H3)) (shaped_tupI _) (shaped_tupI _) (eqv_tupI _ _))) (fun hb H4 e4 => ?_) fun hb H4 e4 => ?_
    · rw [decide_eq_true_eq] at hb
      cases hf : Vatdfa.firstAlike t (natsOf l) with
      | none =>
        rw [hf] at k
        exact Evl.s_retL (Evl.el_lst (ea_cons (ev_c (v := .int 1)) ea_nil) (by show 1 ≤ 100000; decide)) fun p H5 np e5 hp => k p H5 (Evl.fresh_back ((e2.trans e3).trans e4) np) (((e2.trans e3).trans e4).trans e5) hp
      | some x =>
        rw [hf] at hb
        exfalso
        have h1 : (x.1 : Int) = -1 := by injection hb
        omega
    · rw [decide_eq_false_iff_not] at hb
      cases hf : Vatdfa.firstAlike t (natsOf l) with
      | none => rw [hf] at hb; exact absurd rfl hb
      | some x =>
        rw [hf] at k hrv
        obtain ⟨b, rfl, hb2⟩ := dp_tupI.mp hrv
        have hb3 := SqT.ex e4 hb2
        exact Evl.s_retL (Evl.el_lst (ea_cons (ev_c (v := .int 0)) (ea_cons (ev_ixT (v := .int (x.1 : Nat)) (ev_var rfl) ev_c hb3 (atI_nat (j := 0) rfl)) (ea_cons (ev_ixT (v := .int (x.2 : Nat)) (ev_var rfl) ev_c hb3 (atI_nat (j := 1) rfl)) ea_nil))) (by show 3 ≤ 100000; decide)) fun p H5 np e5 hp => k p H5 (Evl.fresh_back ((e2.trans e3).trans e4) np) (((e2.trans e3).trans e4).trans e5) hp
theorem fn_ask_keys (T : Tops K mg ad) : Fn P w K mg base "ask_keys" 6 ["table"] (spL (A1 fun (t : Table) v H => isTab K ad t v H ∧ Wf t) fun t => (aKeys t).map V.int) := by
  refine Fn.mk' T.f_ask_keys sc_ask_keys lN1 fun cdv f A outer s H E hr => ⟨_, (pss_cons (ps_set (i := 1) sc_ask_keys.nd rfl (Or.inl rfl) (pe_fn (fn_least_keys T) (hr.mono (by decide)) (pa_cons (pv 0) pa_nil)))
      (pss_cons (ps_set (i := 2) sc_ask_keys.nd rfl (Or.inl rfl) (pe_lst (pa_cons (pe_callB call_len_seq (by rfl) T.b_len PySem.boot_len (pa_cons (pv 1) pa_nil)) pa_nil)))
      (pss_cons (ps_for PassesOwn.never rfl (pi_list (pv 1)) (pg_name (i := 3) sc_ask_keys.nd rfl (Or.inl rfl)) (pss_cons (ps_expr (pe_bm PySem.F.plainAttrs_list PySem.F.slot_list_append PySem.F.type_list_append mt_append (pv 2) (pa_cons (pe_callB call_len_seq (by rfl) T.b_len PySem.boot_len (pa_cons (pv 3) pa_nil)) pa_nil)))
      (pss_one (ps_expr (pe_bm PySem.F.plainAttrs_list PySem.F.slot_list_extend PySem.F.type_list_extend mt_extend (pv 2) (pa_cons (pe_callTy call_list_of (by rfl) T.b_list (by decide +kernel) (pa_cons (pv 3) pa_nil)) pa_nil))))))
      (pss_one (ps_ret (pv 2)))))), ?_⟩
  rintro vs Q ⟨t, ⟨v, rfl, ht, hw⟩, k⟩
  have hko := keys_ok hw
  refine q_asgF (evf_callN t (ea_cons (ev_var rfl) ea_nil) fun H3 e3 => ⟨_, rfl, ht.ex e3, hw⟩) fun q H3 nq e3 ⟨ys, hq, hqd⟩ => ?_
  have hyl : ys.length = (Vatdfa.keys t).length := by have := DpAll.len hqd; rwa [List.length_map] at this
  refine Evl.q_asgL (Evl.el_lst (ea_cons (ev_int (ev_lenL (ev_var rfl) (SqL.of hq)) (by rw [hyl])) ea_nil) (by show 1 ≤ 100000; decide)) fun p H4 np e4 hp => ?_
  have hqp : q ≠ p := ne_of_none hq np
  refine Evl.q_forLn (ev_var rfl) (SqL.of (e4 _ _ hq))
    (fun i σ' H' => Ex H H' ∧ (H' q = some (.lst ys) ∧ DpAll K H' ys ((Vatdfa.keys t).map bD)) ∧ H' p = some (.lst ((Vatdfa.int (Vatdfa.keys t).length :: ((Vatdfa.keys t).take i).flatMap Vatdfa.listed).map V.int)) ∧ ∃ x, σ' = [some v, some (.ref q), some (.ref p), x])
    (fun H5 e5 => ⟨(e3.trans e4).trans e5, ⟨(e4.trans e5) _ _ hq, DpAll.ex (e4.trans e5) hqd⟩, e5 _ _ hp, none, rfl⟩) (fun i σ' H' _ hh => SqL.of hh.2.1.1) ?_ ?_
  · rintro i x σ' H' hx ⟨e, ⟨hq', hqd'⟩, hp', y, rfl⟩
    obtain ⟨d, hd1, hd2⟩ := DpAll.at hqd' hx
    obtain ⟨s, hs, rfl⟩ := get_map hd1
    obtain ⟨b, rfl, hb2⟩ := dp_bD.mp hd2
    have hs5 := hko.2 s (List.mem_of_getElem? hs)
    have hal : (((Vatdfa.keys t).take i).flatMap Vatdfa.listed).length ≤ 200 := by
      have h1 := flat_len Vatdfa.listed 6 ((Vatdfa.keys t).take i) fun s hs => by
        have := hko.2 s (List.mem_of_mem_take hs)
        simp [Vatdfa.listed, Vatdfa.ints]
        omega
      have h2 : ((Vatdfa.keys t).take i).length ≤ 32 := by rw [List.length_take]; omega
      omega
    refine Evl.q_app hp' (ev_var rfl) (ev_int (ev_lenT (ev_var rfl) hb2) (by rw [nV_len])) (by rw [List.length_map, List.length_cons]; omega) fun H5 e5 => ?_
    have np0 := Evl.fresh_back e3 np
    refine s_ext (xs := (Vatdfa.int (Vatdfa.keys t).length :: ((Vatdfa.keys t).take i).flatMap Vatdfa.listed).map V.int ++ [.int (s.length : Nat)]) upd_same (ev_var rfl) (evl_P (evl_listT (ev_var rfl) (sqT_upd (e5 _ _ hp') (SqT.ex e5 hb2)))) ?_ fun H6 e6 => ⟨Ex.mut ((Ex.mut (e.trans e5) np0).trans e6) np0, ?_, ?_, _, rfl⟩
    · rw [List.length_append, List.length_map, List.length_cons, List.length_singleton, nV_len]
      exact Evl.sz_of (by omega)
    · have hp6 := e6 _ _ (upd_same (H := H5) (a := p) (o := .lst ((Vatdfa.int (Vatdfa.keys t).length :: ((Vatdfa.keys t).take i).flatMap Vatdfa.listed).map V.int ++ [.int (s.length : Nat)])))
      exact ⟨by rw [upd_ne hqp]; exact e6 _ _ (by rw [upd_ne hqp]; exact e5 _ _ hq'), stabAll (stab_map stab_bD _) hp6 (DpAll.ex e6 (stabAll (stab_map stab_bD _) (e5 _ _ hp') (DpAll.ex e5 hqd')))⟩
    · rw [upd_same, take_succ_get hs, List.flatMap_append]
      simp [Vatdfa.listed, Vatdfa.ints, Vatdfa.int, nI]
  · rintro σ' H' ⟨e, _, hp', y, rfl⟩
    rw [hyl, List.take_length] at hp'
    exact Evl.s_ret (ev_var rfl) fun H5 e5 => k p H5 (Evl.fresh_back e3 np) (e.trans e5) (e5 _ _ hp')
theorem fn_ask_sorted (T : Tops K mg ad) : Fn P w K mg base "ask_sorted" 3 ["table", "columns"] (spL (A2 fun (x : Table × List Int) v u H => isTab K ad x.1 v H ∧ x.2.length ≤ 1000 ∧ isL K x.2 u H ∧ Wf x.1) fun x => (aSorted x.1 x.2).map V.int) := by
  refine Fn.mk' T.f_ask_sorted sc_ask_sorted lN2 fun cdv f A outer s H E hr => ⟨_, (pss_cons (ps_if (pt_not (pt_val (pe_fn (fn_columns_good T) (hr.mono (by decide)) (pa_cons (pv 0) (pa_cons (pv 1) pa_nil))))) (pss_one (ps_ret (pe_lst (pa_cons (pe_un un_neg pe_int) pa_nil)))) pss_nil)
      (pss_one (ps_ret (pe_fn (fn_counted T) (hr.mono (by decide)) (pa_cons (pe_fn (fn_ordered_rows T) (hr.mono (by decide)) (pa_cons (pv 0) (pa_cons (pv 1) pa_nil))) pa_nil))))), ?_⟩
  rintro vs Q ⟨⟨t, l⟩, ⟨v, u, rfl, ht, hz, hl, hw⟩, k⟩
  change isTab K ad t v H at ht
  change Wf t at hw
  change l.length ≤ 1000 at hz
  change isL K l u H at hl
  change ∀ p H', H p = none → Ex H H' → H' p = some (.lst ((aSorted t l).map V.int)) → Q (.ref p) H' at k
  unfold aSorted at k
  rw [onCols_is hw] at k
  refine Evl.q_when (Evl.et_not (et_val (ev_callV (t, l) (ea_cons (ev_var rfl) (ea_cons (ev_var rfl) ea_nil)) fun H2 e2 => ⟨_, _, rfl, ht.ex e2, hz, hl.ex e2⟩))) (fun hc H2 e2 => ?_) fun hc H2 e2 => ?_
  · rw [Bool.not_eq_true'] at hc
    rw [if_neg (by rw [show colsGood t l = false from hc]; decide)] at k
    exact Evl.s_retL (evl_neg1 4) fun p H3 np e3 hp => k p H3 (Evl.fresh_back e2 np) (e2.trans e3) hp
  · rw [Bool.not_eq_false'] at hc
    change colsGood t l = true at hc
    rw [if_pos hc] at k
    obtain ⟨hn, hlt⟩ := cols_nats hc
    have hnl : (natsOf l).length ≤ 1000 := by unfold natsOf; rw [List.length_map]; exact hz
    have hsl := sorted_len (natsOf l) hw
    refine Evl.s_retL (evl_is (evl_callLP (nI (Vatdfa.sorted t (natsOf l))) (eap_one (evl_P (evl_callL (t, natsOf l) (ea_cons (ev_var rfl) (ea_cons (ev_var rfl) ea_nil)) fun H3 e3 => ⟨_, _, rfl, ht.ex (e2.trans e3), by show isL K (nI (natsOf l)) u H3; rw [hn]; exact hl.ex (e2.trans e3), hw, hnl, hlt⟩))) fun vs H3 e3 ⟨v, h1, b, h2, h3⟩ => ⟨v, h1, by unfold nI; rw [List.length_map]; omega, b, h2, h3⟩) ?_) fun p H3 np e3 hp => k p H3 (Evl.fresh_back e2 np) (e2.trans e3) hp
    unfold counts nI
    rw [List.length_map]
    rfl
end
end Tx
end

section
set_option Elab.async false
set_option linter.all false
set_option maxRecDepth 100000
set_option maxHeartbeats 4000000
set_option exponentiation.threshold 100000
namespace Tx
open PySem PySem.Spec PyProof.Rows L2
open Evl (Ex Ev EvL EvU EvT EvA EvO RV ev_c ev_var ea_nil ea_cons eo_none eo_some)
open VatdfBase (Cell Table)
/-! ### calls -/
structure CallR where
  deed : Nat
  heads : List Int
  listed : List Int
def headsN (d : Nat) : Nat := ([1, 1, 1, 1, 3, 2, 1, 1, 1, 1, 0][d]?).getD 0
def listsB (d : Nat) : Bool := ([true, true, false, false, false, false, true, true, false, true, false][d]?).getD false
structure okC (c : CallR) : Prop where
  dp : c.deed ≤ 10
  hd : c.heads.length = headsN c.deed
  no : listsB c.deed = false → c.listed = []
  sz : c.deed ≠ 0 → c.listed.length ≤ 1000
  by0 : c.deed = 0 → c.listed.length ≤ 1100 ∧ ∀ z ∈ c.listed, 0 ≤ z ∧ z ≤ 255
def calF (d x y : V) : List (Str × V) := [("deed", d), ("heads", x), ("listed", y)]
def calA : List V → List (Str × V)
  | [x, y, z] => calF x y z
  | _ => []
theorem cal_deed {x y z : V} : (calF x y z).lookup ("deed" : Str) = some x := lk_here
theorem cal_heads {x y z : V} : (calF x y z).lookup ("heads" : Str) = some y := (lk_past (by decide +kernel)).trans lk_here
theorem cal_listed {x y z : V} : (calF x y z).lookup ("listed" : Str) = some z := (lk_past (by decide +kernel)).trans ((lk_past (by decide +kernel)).trans lk_here)
/-- a call's object; its lists were made behind H0 -/
def isCa (K : PySem.W.Frag) (ad : Ads) (H0 H : Hp) (v : V) (c : CallR) : Prop := ∃ q dx a b, v = .ref q ∧ H q = some (.ins ad.Call dx (calF (.int (c.deed : Nat)) (.ref a) (.ref b))) ∧ H a = some (.lst (c.heads.map V.int)) ∧ H b = some (.lst (c.listed.map V.int)) ∧ H0 a = none ∧ H0 b = none
section
variable {K : PySem.W.Frag} {ad : Ads} {H0 H H' : Hp} {v : V} {c : CallR}
theorem isCa.ex (e : Ex H H') (h : isCa K ad H0 H v c) : isCa K ad H0 H' v c := by
  obtain ⟨q, dx, a, b, h1, h2, h3, h4, h5, h6⟩ := h
  exact ⟨q, dx, a, b, h1, e _ _ h2, e _ _ h3, e _ _ h4, h5, h6⟩
theorem isCa.upd {p : Addr} {xs zs : List V} {o : HO} (h : isCa K ad H0 H v c) (hp : H p = some (.lst xs)) (h0 : H0 p = some o) : isCa K ad H0 (upd H p (.lst zs)) v c := by
  obtain ⟨q, dx, a, b, h1, h2, h3, h4, h5, h6⟩ := h
  exact ⟨q, dx, a, b, h1, by rw [upd_ne (ne_of h2 hp (by intro z; cases z))]; exact h2, by rw [upd_ne (ne_of_none h0 h5).symm]; exact h3, by rw [upd_ne (ne_of_none h0 h6).symm]; exact h4, h5, h6⟩
theorem isCa.back {H1 : Hp} (d : Dm H1 H0) (h : isCa K ad H0 H v c) : isCa K ad H1 H v c := by
  obtain ⟨q, dx, a, b, h1, h2, h3, h4, h5, h6⟩ := h
  exact ⟨q, dx, a, b, h1, h2, h3, h4, d _ h5, d _ h6⟩
end
section
variable {K : PySem.W.Frag} {mg : Str → Option Value} {ad : Ads} {σ : L2.St} {H : Hp} {te : TE} {p dx : Addr} {x y z : V}
theorem ev_deed (T : Tops K mg ad) (h : Ev te σ H (.ref p)) (hp : H p = some (.ins ad.Call dx (calF x y z))) : Ev (tFld K te "deed") σ H x := ev_fld h hp T.k_Call T.a_Call_deed cal_deed
theorem ev_heads (T : Tops K mg ad) (h : Ev te σ H (.ref p)) (hp : H p = some (.ins ad.Call dx (calF x y z))) : Ev (tFld K te "heads") σ H y := ev_fld h hp T.k_Call T.a_Call_heads cal_heads
theorem ev_listed (T : Tops K mg ad) (h : Ev te σ H (.ref p)) (hp : H p = some (.ins ad.Call dx (calF x y z))) : Ev (tFld K te "listed") σ H z := ev_fld h hp T.k_Call T.a_Call_listed cal_listed
end
def askedOf (t : Table) (c : CallR) : List Int :=
  if c.deed = 2 then Vatdfa.listed (Vatdfa.tableText t) else if c.deed = 3 then counts (VatdfFlat.flatTable t) else if c.deed = 4 then aCell t (iat c.heads 1) (iat c.heads 2) else if c.deed = 5 then aColumn t (iat c.heads 1)
  else if c.deed = 6 then aFind t c.listed else if c.deed = 7 then aKey t c.listed else if c.deed = 8 then aKeys t else aSorted t c.listed
/-! ### a call in the flat list -/
def putC (c : CallR) : List Int := (c.deed : Int) :: (c.heads ++ if listsB c.deed = true then counts c.listed else [])
theorem deeds {d : Nat} (h : d ≤ 10) : d = 0 ∨ d = 1 ∨ d = 2 ∨ d = 3 ∨ d = 4 ∨ d = 5 ∨ d = 6 ∨ d = 7 ∨ d = 8 ∨ d = 9 ∨ d = 10 := by omega
theorem heads_at {d : Nat} (h : d ≤ 10) : ([.int 1, .int 1, .int 1, .int 1, .int 3, .int 2, .int 1, .int 1, .int 1, .int 1, .int 0] : List V)[d]? = some (.int (headsN d : Nat)) := by
  rcases deeds h with rfl | rfl | rfl | rfl | rfl | rfl | rfl | rfl | rfl | rfl | rfl <;> rfl
theorem lists_at {d : Nat} (h : d ≤ 10) : ([.bl true, .bl true, .bl false, .bl false, .bl false, .bl false, .bl true, .bl true, .bl false, .bl true, .bl false] : List V)[d]? = some (.bl (listsB d)) := by
  rcases deeds h with rfl | rfl | rfl | rfl | rfl | rfl | rfl | rfl | rfl | rfl | rfl <;> rfl
/-- the call stands at a place -/
def At (l : List Int) (i : Nat) (c : CallR) : Prop := okC c ∧ ∃ post, l.drop i = putC c ++ post
theorem At.deed {l : List Int} {i : Nat} {c : CallR} (h : At l i c) : (l.map V.int)[i]? = some (.int (c.deed : Nat)) := by
  obtain ⟨_, post, h⟩ := h
  rw [List.getElem?_map]
  have : l[i]? = (l.drop i)[0]? := by rw [List.getElem?_drop]; rfl
  rw [this, h]
  rfl
theorem At.heads {l : List Int} {i : Nat} {c : CallR} (h : At l i c) : (l.drop (i + 1)).take c.heads.length = c.heads ∧ i + 1 + c.heads.length ≤ l.length := by
  obtain ⟨_, post, h⟩ := h
  have e : l.drop (i + 1) = c.heads ++ ((if listsB c.deed = true then counts c.listed else []) ++ post) := by
    rw [← List.drop_drop, h]
    simp [putC]
  have hl := congrArg List.length h
  rw [List.length_drop] at hl
  unfold putC at hl
  rw [List.length_append, List.length_cons, List.length_append] at hl
  exact ⟨by rw [e, List.take_left], by omega⟩
theorem At.listed {l : List Int} {i : Nat} {c : CallR} (h : At l i c) (hb : listsB c.deed = true) : l[i + 1 + c.heads.length]? = some (c.listed.length : Int) ∧ (l.drop (i + 1 + c.heads.length + 1)).take c.listed.length = c.listed ∧ i + 1 + c.heads.length + 1 + c.listed.length ≤ l.length := by
  obtain ⟨_, post, h⟩ := h
  unfold putC at h
  rw [if_pos hb] at h
  have e : l.drop (i + (1 + c.heads.length)) = (c.listed.length : Int) :: (c.listed ++ post) := by
    rw [← List.drop_drop, h, List.cons_append, List.append_assoc, Nat.add_comm 1, List.drop_succ_cons, List.drop_left]
    rfl
  have e2 : l.drop (i + (1 + c.heads.length) + 1) = c.listed ++ post := by
    rw [← List.drop_drop, e]
    rfl
  have hl := congrArg List.length h
  rw [List.length_drop, List.length_append, List.length_cons, List.length_append] at hl
  unfold counts at hl
  rw [List.length_cons] at hl
  refine ⟨?_, ?_, by omega⟩
  · have : l[i + 1 + c.heads.length]? = (l.drop (i + (1 + c.heads.length)))[0]? := by rw [List.getElem?_drop, Nat.add_assoc i 1]; rfl
    rw [this, e]
    rfl
  · rw [Nat.add_assoc i 1, e2, List.take_left]
section
variable {P : Program} {w : World} {K : PySem.W.Frag} {mg : Str → Option Value} {base : Heap} {ad : Ads}
theorem in_Call (T : Tops K mg ad) : Ini P w K mg base "Call" ad.Call 1 ["self", "deed", "heads", "listed"] (spIni ad.Call 3 calA) := by
  refine Ini.mk' T.i_Call sc_Call_init lIni fun cdv f A outer s H E hr => ⟨_, (pss_cons (ps_fld (pv 0) (pv 1) rfl)
      (pss_cons (ps_fld (pv 0) (pv 2) rfl)
      (pss_one (ps_fld (pv 0) (pv 3) rfl)))), ?_⟩
  rintro vs Q ⟨p, dx, args, rfl, hl, hp, k⟩
  match args, hl with
  | [x, y, z], _ =>
    refine ⟨_, rfl, _, rfl, p, ad.Call, dx, [], rfl, hp, T.k_Call, T.a_Call_deed, (by show 0 < 1000; decide), ?_⟩
    refine ⟨_, rfl, _, rfl, p, ad.Call, dx, _, rfl, upd_same, T.k_Call, T.a_Call_heads, (by show 1 < 1000; decide), ?_⟩
    refine ⟨_, rfl, _, rfl, p, ad.Call, dx, _, rfl, upd_same, T.k_Call, T.a_Call_listed, (by show 2 < 1000; decide), ?_⟩
    refine k _ (upd_same.trans ?_) fun b o e hb => by rw [upd_ne hb, upd_ne hb, upd_ne hb]; exact e
    rw [put_nil, put_past (by decide +kernel), put_nil, put_past (by decide +kernel), put_past (by decide +kernel), put_nil]
    rfl
theorem fn_heads_end (T : Tops K mg ad) : Fn P w K mg base "heads_end" 1 ["calls", "at"] (spV (A2 fun (x : List Int × Nat × CallR) v u H => isL K x.1 v H ∧ u = .int (x.2.1 : Nat) ∧ At x.1 x.2.1 x.2.2) fun x => .int ((x.2.1 + 1 + x.2.2.heads.length : Nat) : Int)) := by
  refine Fn.mk' T.f_heads_end sc_heads_end lV2 fun cdv f A outer s H E hr => ⟨_, (pss_one (ps_ret (pe_op op_add (pe_op op_add (pv 1) pe_int) (pe_ix ix_tup (pe_gr T.c_HEADS) (pe_ix ix_list (pv 0) (pv 1) (fun _ _ => rfl)) (fun _ _ => rfl))))), ?_⟩
  rintro vs Q ⟨⟨l, i, c⟩, ⟨v, u, rfl, ⟨a, rfl, ha⟩, rfl, h⟩, k⟩
  change SqL K H a (l.map V.int) at ha
  change At l i c at h
  refine Evl.s_ret (ev_int (ev_nadd (a := i + 1) (b := headsN c.deed) (ev_nadd (b := 1) (ev_var rfl) ev_c) (ev_ixT ev_c (ev_ixL (ev_var rfl) (ev_var rfl) ha (atI_nat h.deed)) (T.d_HEADS H) (atI_nat (heads_at h.1.dp)))) ?_) k
  show ((i + 1 + headsN c.deed : Nat) : Int) = ((i + 1 + c.heads.length : Nat) : Int)
  rw [h.1.hd]
theorem fn_call_end (T : Tops K mg ad) : Fn P w K mg base "call_end" 2 ["calls", "at"] (spV (A2 fun (x : List Int × Nat × CallR) v u H => isL K x.1 v H ∧ u = .int (x.2.1 : Nat) ∧ At x.1 x.2.1 x.2.2) fun x => .int ((x.2.1 + (putC x.2.2).length : Nat) : Int)) := by
  refine Fn.mk' T.f_call_end sc_call_end lV2 fun cdv f A outer s H E hr => ⟨_, (pss_cons (ps_set (i := 2) sc_call_end.nd rfl (Or.inl rfl) (pe_fn (fn_heads_end T) (hr.mono (by decide)) (pa_cons (pv 0) (pa_cons (pv 1) pa_nil))))
      (pss_cons (ps_if (pt_val (pe_ix ix_tup (pe_gr T.c_LISTS) (pe_ix ix_list (pv 0) (pv 1) (fun _ _ => rfl)) (fun _ _ => rfl))) (pss_one (ps_ret (pe_op op_add (pe_op op_add (pv 2) pe_int) (pe_ix ix_list (pv 0) (pv 2) (fun _ _ => rfl))))) pss_nil)
      (pss_one (ps_ret (pv 2))))), ?_⟩
  rintro vs Q ⟨⟨l, i, c⟩, ⟨v, u, rfl, ⟨a, rfl, ha⟩, rfl, h⟩, k⟩
  change SqL K H a (l.map V.int) at ha
  change At l i c at h
  change ∀ H', Ex H H' → Q (.int ((i + (putC c).length : Nat) : Int)) H' at k
  refine Evl.q_asg (ev_callV (l, i, c) (ea_cons (ev_var rfl) (ea_cons (ev_var rfl) ea_nil)) fun H1 e1 => ⟨_, _, rfl, ⟨a, rfl, SqL.ex e1 ha⟩, rfl, h⟩) fun H1 e1 => ?_
  have ha1 := SqL.ex e1 ha
  refine Evl.q_when (et_val (ev_ixT ev_c (ev_ixL (ev_var rfl) (ev_var rfl) ha1 (atI_nat h.deed)) (T.d_LISTS H1) (atI_nat (lists_at h.1.dp)))) (fun hb H2 e2 => ?_) fun hb H2 e2 => ?_
  · have hL := h.listed hb
    refine Evl.s_ret (ev_int (ev_nadd (a := i + 1 + c.heads.length + 1) (b := c.listed.length) (ev_nadd (a := i + 1 + c.heads.length) (b := 1) (ev_var rfl) ev_c) (ev_ixL (i := ((i + 1 + c.heads.length : Nat) : Int)) (ev_var rfl) (ev_var rfl) (SqL.ex e2 ha1) (atI_nat (by rw [List.getElem?_map, hL.1]; rfl)))) ?_) fun H3 e3 => k H3 ((e1.trans e2).trans e3)
    unfold putC counts
    rw [if_pos hb, List.length_cons, List.length_append, List.length_cons]
    omega
  · refine Evl.s_ret (ev_int (ev_var rfl) ?_) fun H3 e3 => k H3 ((e1.trans e2).trans e3)
    unfold putC
    rw [hb, if_neg (by decide), List.append_nil, List.length_cons]
    show ((i + 1 + c.heads.length : Nat) : Int) = _
    omega
theorem fn_call_at (T : Tops K mg ad) : Fn P w K mg base "call_at" 3 ["calls", "at"] (spN (A2 fun (x : List Int × Nat × CallR × Hp) v u H => isL K x.1 v H ∧ u = .int (x.2.1 : Nat) ∧ At x.1 x.2.1 x.2.2.1 ∧ Dm x.2.2.2 H) fun x p H => isCa K ad x.2.2.2 H (.ref p) x.2.2.1) := by
  refine Fn.mk' T.f_call_at sc_call_at lN2 fun cdv f A outer s H E hr => ⟨_, (pss_cons (ps_set (i := 2) sc_call_at.nd rfl (Or.inl rfl) (pe_fn (fn_heads_end T) (hr.mono (by decide)) (pa_cons (pv 0) (pa_cons (pv 1) pa_nil))))
      (pss_cons (ps_set (i := 3) sc_call_at.nd rfl (Or.inl rfl) (pe_slice sl_list (pv 0) (po_some (pe_op op_add (pv 1) pe_int)) (po_some (pv 2))))
      (pss_cons (ps_if (pt_val (pe_ix ix_tup (pe_gr T.c_LISTS) (pe_ix ix_list (pv 0) (pv 1) (fun _ _ => rfl)) (fun _ _ => rfl))) (pss_one (ps_ret (pe_new (in_Call T) (hr.mono (by decide)) (pa_cons (pe_ix ix_list (pv 0) (pv 1) (fun _ _ => rfl)) (pa_cons (pv 3) (pa_cons (pe_slice sl_list (pv 0) (po_some (pe_op op_add (pv 2) pe_int)) (po_some (pe_fn (fn_call_end T) (hr.mono (by decide)) (pa_cons (pv 0) (pa_cons (pv 1) pa_nil))))) pa_nil)))))) pss_nil)
      (pss_one (ps_ret (pe_new (in_Call T) (hr.mono (by decide)) (pa_cons (pe_ix ix_list (pv 0) (pv 1) (fun _ _ => rfl)) (pa_cons (pv 3) (pa_cons (pe_lst pa_nil) pa_nil))))))))), ?_⟩
  rintro vs Q ⟨⟨l, i, c, H0⟩, ⟨v, u, rfl, ⟨a, rfl, ha⟩, rfl, h, hd⟩, k⟩
  change SqL K H a (l.map V.int) at ha
  change At l i c at h
  change Dm H0 H at hd
  change ∀ p H', H p = none → Ex H H' → isCa K ad H0 H' (.ref p) c → Q (.ref p) H' at k
  refine Evl.q_asg (ev_callV (l, i, c) (ea_cons (ev_var rfl) (ea_cons (ev_var rfl) ea_nil)) fun H1 e1 => ⟨_, _, rfl, ⟨a, rfl, SqL.ex e1 ha⟩, rfl, h⟩) fun H1 e1 => ?_
  have ha1 := SqL.ex e1 ha
  have hh := h.heads
  refine Evl.q_asgL (xs := c.heads.map V.int) (evl_is (evl_sl (lo := some ((i + 1 : Nat) : Int)) (hi := some ((i + 1 + c.heads.length : Nat) : Int)) (ev_var rfl) (eo_some (ev_nadd (b := 1) (ev_var rfl) ev_c)) (eo_some (ev_var rfl)) ha1) ?_) fun ph H2 nh e2 hph => ?_
  · rw [cut_fromTo (by rw [List.length_map]; omega) (by rw [List.length_map]; exact hh.2), ← List.map_drop, ← List.map_take, show i + 1 + c.heads.length - (i + 1) = c.heads.length by omega, hh.1]
  have ha2 := SqL.ex e2 ha1
  have hnh := hd _ (Evl.fresh_back e1 nh)
  have fin : ∀ (te : TE) (H3 : Hp), Ex H2 H3 → EvL te [some (.ref a), some (.int (i : Nat)), some (.int ((i + 1 + c.heads.length : Nat) : Int)), some (.ref ph)] H3 (c.listed.map V.int) → tRet (tMake ad.Call (spIni ad.Call 3 calA) [] E0 (tCons (tOp (rIxL K) (tVar 0) (tVar 1)) (tCons (tVar 3) (tCons te tNil)))) { nx := fun _ H' => Q .non H', rt := Q } [some (.ref a), some (.int (i : Nat)), some (.int ((i + 1 + c.heads.length : Nat) : Int)), some (.ref ph)] H3 := by
    intro te H3 e3 hte
    have hap : EvAP (tCons (tOp (rIxL K) (tVar 0) (tVar 1)) (tCons (tVar 3) (tCons te tNil))) [some (.ref a), some (.int (i : Nat)), some (.int ((i + 1 + c.heads.length : Nat) : Int)), some (.ref ph)] H3 (fun vs H4 => ∃ x, vs = [.int (c.deed : Nat), .ref ph, .ref x] ∧ H4 x = some (.lst (c.listed.map V.int)) ∧ H3 x = none) := fun H4 e4 Q q =>
      (ev_ixL (K := K) (ev_var rfl) (ev_var rfl) (SqL.ex e3 ha2) (atI_nat h.deed)) H4 e4 _ fun H5 e5 => ev_var (i := 3) (v := .ref ph) (H := H5) rfl H5 (Ex.refl H5) _ fun H6 e6 => hte H6 ((e4.trans e5).trans e6) _ fun x H7 n7 e7 hx => q _ H7 ((e5.trans e6).trans e7) ⟨x, rfl, hx, Evl.fresh_back ((e4.trans e5).trans e6) n7⟩
    refine s_retF (evf_newP hap (fun _ _ _ e ⟨x, h1, h2, h3⟩ => ⟨x, h1, e _ _ h2, h3⟩) fun _ _ ⟨_, h, _⟩ => by rw [h]; rfl) fun p H4 np e4 hfin => ?_
    obtain ⟨dx, args, ⟨x, h9, hx, nx⟩, hp⟩ := hfin
    subst h9
    refine k p H4 (Evl.fresh_back ((e1.trans e2).trans e3) np) (((e1.trans e2).trans e3).trans e4) ?_
    exact ⟨p, dx, ph, x, rfl, hp, (e3.trans e4) _ _ hph, hx, hnh, hd _ (Evl.fresh_back ((e1.trans e2).trans e3) nx)⟩
  refine Evl.q_when (et_val (ev_ixT ev_c (ev_ixL (ev_var rfl) (ev_var rfl) ha2 (atI_nat h.deed)) (T.d_LISTS H2) (atI_nat (lists_at h.1.dp)))) (fun hb H3 e3 => ?_) fun hb H3 e3 => ?_
  · have hL := h.listed hb
    have hce : i + (putC c).length = i + 1 + c.heads.length + 1 + c.listed.length := by
      unfold putC counts
      rw [if_pos hb, List.length_cons, List.length_append, List.length_cons]
      omega
    refine fin _ H3 e3 (evl_is (evl_sl (lo := some ((i + 1 + c.heads.length + 1 : Nat) : Int)) (hi := some ((i + (putC c).length : Nat) : Int)) (ev_var rfl) (eo_some (ev_nadd (a := i + 1 + c.heads.length) (b := 1) (ev_var rfl) ev_c)) (eo_some (ev_callV (l, i, c) (ea_cons (ev_var rfl) (ea_cons (ev_var rfl) ea_nil)) fun H4 e4 => ⟨_, _, rfl, ⟨a, rfl, SqL.ex (e3.trans e4) ha2⟩, rfl, h⟩)) (SqL.ex e3 ha2)) ?_)
    rw [cut_fromTo (by rw [List.length_map]; omega) (by rw [List.length_map, hce]; exact hL.2.2), ← List.map_drop, ← List.map_take, hce, show i + 1 + c.heads.length + 1 + c.listed.length - (i + 1 + c.heads.length + 1) = c.listed.length by omega, hL.2.1]
  · refine fin _ H3 e3 ?_
    rw [h.1.no hb]
    exact Evl.el_lst ea_nil (Nat.zero_le _)
theorem fn_cut (T : Tops K mg ad) : Fn P w K mg base "cut" 4 ["calls"] (spN (A1 fun (x : List Int × List CallR × Hp) v H => isL K x.1 v H ∧ x.1 = x.2.1.flatMap putC ∧ (∀ c ∈ x.2.1, okC c) ∧ x.2.1.length ≤ 1000 ∧ Dm x.2.2 H) fun x p H => ∃ ys, H p = some (.lst ys) ∧ Paired (isCa K ad x.2.2 H) ys x.2.1) := by
  refine Fn.mk' T.f_cut sc_cut lN1 fun cdv f A outer s H E hr => ⟨_, (pss_cons (ps_set (i := 1) sc_cut.nd rfl (Or.inl rfl) (pe_lst pa_nil))
      (pss_cons (ps_set (i := 2) sc_cut.nd rfl (Or.inl rfl) pe_int)
      (pss_cons (ps_while PassesOwn.never (pt_cmpR op_lt (pv 2) (pe_callB call_len_seq (by rfl) T.b_len PySem.boot_len (pa_cons (pv 0) pa_nil)) (nomark _)) (pss_cons (ps_expr (pe_bm PySem.F.plainAttrs_list PySem.F.slot_list_append PySem.F.type_list_append mt_append (pv 1) (pa_cons (pe_fn (fn_call_at T) (hr.mono (by decide)) (pa_cons (pv 0) (pa_cons (pv 2) pa_nil))) pa_nil)))
      (pss_one (ps_set (i := 2) sc_cut.nd rfl (Or.inl rfl) (pe_fn (fn_call_end T) (hr.mono (by decide)) (pa_cons (pv 0) (pa_cons (pv 2) pa_nil)))))))
      (pss_one (ps_ret (pv 1)))))), ?_⟩
  rintro vs Q ⟨⟨l, cs, H0⟩, ⟨v, rfl, ⟨a, rfl, ha⟩, hl, hok, hz, hd⟩, k⟩
  change SqL K H a (l.map V.int) at ha
  change l = cs.flatMap putC at hl
  change ∀ c ∈ cs, okC c at hok
  change cs.length ≤ 1000 at hz
  change Dm H0 H at hd
  change ∀ p H', H p = none → Ex H H' → (∃ ys, H' p = some (.lst ys) ∧ Paired (isCa K ad H0 H') ys cs) → Q (.ref p) H' at k
  refine Evl.q_asgL (Evl.el_lst ea_nil (Nat.zero_le _)) fun p H1 np e1 hp => ?_
  refine Evl.q_asg ev_c fun H2 e2 => ?_
  refine Evl.q_while (fun m σ' H' => ∃ i j ys, m = cs.length - j ∧ j ≤ cs.length ∧ Ex H H' ∧ Dm H1 H' ∧ l.drop i = (cs.drop j).flatMap putC ∧ i ≤ l.length ∧ H' p = some (.lst ys) ∧ Paired (isCa K ad H1 H') ys (cs.take j) ∧ σ' = [some (.ref a), some (.ref p), some (.int (i : Nat))]) cs.length ⟨0, 0, [], rfl, Nat.zero_le _, e1.trans e2, Dm.of e2, hl, Nat.zero_le _, e2 _ _ hp, .nil, rfl⟩ ?_
  rintro m σ' H' ⟨i, j, ys, rfl, hj, e, hdm, hdr, hi, hy, hpa, rfl⟩
  have ha' := SqL.ex e ha
  refine ⟨_, Evl.et_test (ev_I0 (ev_var rfl) (ev_int (ev_lenL (ev_var rfl) ha') (by rw [List.length_map]))), fun hlt H3 e3 => ?_, fun hlt H3 e3 => ?_⟩
  · rw [decide_eq_true_eq] at hlt
    have hlt' : i < l.length := by omega
    have hjl : j < cs.length := by
      by_cases q : j < cs.length
      · exact q
      · rw [List.drop_eq_nil_of_le (as := cs) (by omega)] at hdr
        have := congrArg List.length hdr
        rw [List.length_drop] at this
        simp at this
        omega
    obtain ⟨c, hc⟩ : ∃ c, cs[j]? = some c := ⟨_, List.getElem?_eq_getElem hjl⟩
    have hdc : cs.drop j = c :: cs.drop (j + 1) := by
      rw [List.drop_eq_getElem_cons hjl]
      congr 1
      exact Option.some.inj ((List.getElem?_eq_getElem hjl).symm.trans hc)
    rw [hdc, List.flatMap_cons] at hdr
    have hat : At l i c := ⟨hok c (List.mem_of_getElem? hc), _, hdr⟩
    have hyl : ys.length ≤ 1000 := by
      rw [Paired.length hpa, List.length_take]; omega
    refine ⟨fun σ' H' => ∃ i ys, Ex H H' ∧ Dm H1 H' ∧ l.drop i = (cs.drop (j + 1)).flatMap putC ∧ i ≤ l.length ∧ H' p = some (.lst ys) ∧ Paired (isCa K ad H1 H') ys (cs.take (j + 1)) ∧ σ' = [some (.ref a), some (.ref p), some (.int (i : Nat))], fun σ2 H2 ⟨i, ys, h⟩ => ⟨cs.length - (j + 1), by omega, i, j + 1, ys, rfl, by omega, h⟩, ?_⟩
    refine q_appP (e3 _ _ hy) (ev_var rfl) (evp_F (evf_callN (l, i, c, H1) (ea_cons (ev_var rfl) (ea_cons (ev_var rfl) ea_nil)) fun H4 e4 => ⟨_, _, rfl, ⟨a, rfl, SqL.ex (e3.trans e4) ha'⟩, rfl, hat, (hdm.ex e3).ex e4⟩)) (Evl.sz_lt (by omega)) fun v H4 e4 ⟨q, hv, hq⟩ => ?_
    subst hv
    have e34 := e3.trans e4
    have hy4 := e34 _ _ hy
    have e5 := Ex.mut (o := .lst (ys ++ [.ref q])) (e.trans e34) np
    refine Evl.s_asg (ev_callV (l, i, c) (ea_cons (ev_var rfl) (ea_cons (ev_var rfl) ea_nil)) fun H6 e6 => ⟨_, _, rfl, ⟨a, rfl, SqL.ex (e5.trans e6) ha⟩, rfl, hat⟩) fun H6 e6 => ?_
    refine ⟨i + (putC c).length, ys ++ [.ref q], e5.trans e6, ((hdm.ex e34).upd).ex e6, ?_, ?_, e6 _ _ upd_same, ?_, rfl⟩
    · rw [← List.drop_drop, hdr, List.drop_left]
    · have := congrArg List.length hdr
      rw [List.length_drop, List.length_append] at this
      omega
    · rw [take_succ_get hc]
      exact Paired.snoc (paired_mono hpa fun _ _ h => ((h.ex e34).upd hy4 hp).ex e6) ((isCa.upd hq hy4 hp).ex e6)
  · rw [decide_eq_false_iff_not] at hlt
    have hil : i = l.length := by omega
    have hjl : j = cs.length := by
      by_cases q : j < cs.length
      · rw [List.drop_eq_getElem_cons q, List.flatMap_cons, List.drop_eq_nil_of_le (by omega)] at hdr
        cases hdr
      · omega
    rw [hjl, List.take_length] at hpa
    exact Evl.s_ret (ev_var rfl) fun H4 e4 => k p H4 np ((e.trans e3).trans e4) ⟨ys, (e3.trans e4) _ _ hy, paired_mono hpa fun _ _ h => ((h.ex (e3.trans e4)).back (fun b hb => hd b (Evl.fresh_back e1 hb)))⟩
theorem fn_asked (T : Tops K mg ad) : Fn P w K mg base "asked" 7 ["table", "call"] (spL (A2 fun (x : Table × CallR × Hp) v u H => isTab K ad x.1 v H ∧ Wf x.1 ∧ okC x.2.1 ∧ 2 ≤ x.2.1.deed ∧ x.2.1.deed ≤ 9 ∧ isCa K ad x.2.2 H u x.2.1) fun x => (askedOf x.1 x.2.1).map V.int) := by
  refine Fn.mk' T.f_asked sc_asked lN2 fun cdv f A outer s H E hr => ⟨_, (pss_cons (ps_if (pt_cmpR op_eq (pe_fld (pv 1) rfl) pe_int (nomark _)) (pss_one (ps_ret (pe_fn (fn_counted T) (hr.mono (by decide)) (pa_cons (pe_fn (fn_shown_table T) (hr.mono (by decide)) (pa_cons (pv 0) pa_nil)) pa_nil)))) pss_nil)
      (pss_cons (ps_if (pt_cmpR op_eq (pe_fld (pv 1) rfl) pe_int (nomark _)) (pss_one (ps_ret (pe_fn (fn_counted T) (hr.mono (by decide)) (pa_cons (pe_fn (fn_told_table T) (hr.mono (by decide)) (pa_cons (pv 0) pa_nil)) pa_nil)))) pss_nil)
      (pss_cons (ps_if (pt_cmpR op_eq (pe_fld (pv 1) rfl) pe_int (nomark _)) (pss_one (ps_ret (pe_fn (fn_ask_cell T) (hr.mono (by decide)) (pa_cons (pv 0) (pa_cons (pe_ix ix_list (pe_fld (pv 1) rfl) pe_int (fun _ _ => rfl)) (pa_cons (pe_ix ix_list (pe_fld (pv 1) rfl) pe_int (fun _ _ => rfl)) pa_nil)))))) pss_nil)
      (pss_cons (ps_if (pt_cmpR op_eq (pe_fld (pv 1) rfl) pe_int (nomark _)) (pss_one (ps_ret (pe_fn (fn_ask_column T) (hr.mono (by decide)) (pa_cons (pv 0) (pa_cons (pe_ix ix_list (pe_fld (pv 1) rfl) pe_int (fun _ _ => rfl)) pa_nil))))) pss_nil)
      (pss_cons (ps_if (pt_cmpR op_eq (pe_fld (pv 1) rfl) pe_int (nomark _)) (pss_one (ps_ret (pe_fn (fn_ask_find T) (hr.mono (by decide)) (pa_cons (pv 0) (pa_cons (pe_fld (pv 1) rfl) pa_nil))))) pss_nil)
      (pss_cons (ps_if (pt_cmpR op_eq (pe_fld (pv 1) rfl) pe_int (nomark _)) (pss_one (ps_ret (pe_fn (fn_ask_key T) (hr.mono (by decide)) (pa_cons (pv 0) (pa_cons (pe_fld (pv 1) rfl) pa_nil))))) pss_nil)
      (pss_cons (ps_if (pt_cmpR op_eq (pe_fld (pv 1) rfl) pe_int (nomark _)) (pss_one (ps_ret (pe_fn (fn_ask_keys T) (hr.mono (by decide)) (pa_cons (pv 0) pa_nil)))) pss_nil)
      (pss_one (ps_ret (pe_fn (fn_ask_sorted T) (hr.mono (by decide)) (pa_cons (pv 0) (pa_cons (pe_fld (pv 1) rfl) pa_nil)))))))))))), ?_⟩
  rintro vs Q ⟨⟨t, c, H0⟩, ⟨v, u, rfl, ht, hw, hok, h2, h9, q, dx, a, b, rfl, hq, ha, hb, _⟩, k⟩
  change isTab K ad t v H at ht
  change Wf t at hw
  change okC c at hok
  change 2 ≤ c.deed at h2
  change c.deed ≤ 9 at h9
  change H q = some (.ins ad.Call dx (calF (.int (c.deed : Nat)) (.ref a) (.ref b))) at hq
  change H a = some (.lst (c.heads.map V.int)) at ha
  change H b = some (.lst (c.listed.map V.int)) at hb
  have hsz := hok.sz (by omega)
  have hhd := hok.hd
  change ∀ p H', H p = none → Ex H H' → H' p = some (.lst ((askedOf t c).map V.int)) → Q (.ref p) H' at k
  unfold askedOf at k
  have test : ∀ (n : Nat) (H1 : Hp), Ex H H1 → EvT (tTest (tOp rEq (tFld K (tVar 1) "deed") (tC (.int (n : Nat))))) [some v, some (.ref q)] H1 (decide (c.deed = n)) := fun n H1 e1 => Evl.et_test (ev_bool (ev_eqI (ev_deed T (ev_var rfl) (e1 _ _ hq)) ev_c) (cast_eq _ n))
  have hd : ∀ (n : Nat) (H1 : Hp), Ex H H1 → n < c.heads.length → Ev (tOp (rIxL K) (tFld K (tVar 1) "heads") (tC (.int (n : Nat)))) [some v, some (.ref q)] H1 (.int (iat c.heads n)) := fun n H1 e1 hn => ev_ixL (ev_heads T (ev_var rfl) (e1 _ _ hq)) ev_c (SqL.of (e1 _ _ ha)) (atI_nat (int_get hn))
  have hls : ∀ H1, Ex H H1 → Ev (tFld K (tVar 1) "listed") [some v, some (.ref q)] H1 (.ref b) := fun H1 e1 => ev_listed T (ev_var rfl) (e1 _ _ hq)
  have hbl : ∀ H1, Ex H H1 → isL K c.listed (.ref b) H1 := fun H1 e1 => ⟨b, rfl, SqL.of (e1 _ _ hb)⟩
  have fin : ∀ {te : TE} {xs : List Int} (H1 : Hp), Ex H H1 → EvL te [some v, some (.ref q)] H1 (xs.map V.int) → (∀ p H', H p = none → Ex H H' → H' p = some (.lst (xs.map V.int)) → Q (.ref p) H') → tRet te { nx := fun _ H' => Q .non H', rt := Q } [some v, some (.ref q)] H1 := fun H1 e1 hl k => Evl.s_retL hl fun p H2 np e2 hp => k p H2 (Evl.fresh_back e1 np) (e1.trans e2) hp
  refine Evl.q_when (test 2 H (Ex.refl H)) (fun hc H1 e1 => ?_) fun hc H1 e1 => ?_
  · rw [decide_eq_true_eq] at hc
    rw [if_pos hc] at k
    have hl := tableText_len hw
    refine fin H1 e1 (evl_is (evl_callLP (nI (Vatdfa.tableText t)) (eap_one (evl_P (evl_callL t (ea_cons (ev_var rfl) ea_nil) fun H3 e3 => ⟨_, rfl, ht.ex (e1.trans e3), hw⟩))) fun vs H3 e3 ⟨v, h1, b, h2, h3⟩ => ⟨v, h1, by unfold nI; rw [List.length_map]; omega, b, h2, h3⟩) ?_) k
    unfold counts nI
    rw [List.length_map]
    rfl
  rw [decide_eq_false_iff_not] at hc
  rw [if_neg hc] at k
  refine Evl.q_when (test 3 H1 e1) (fun hc H2 e2 => ?_) fun hc H2 e2 => ?_
  · rw [decide_eq_true_eq] at hc
    rw [if_pos hc] at k
    have hl := flatTable_len hw
    exact fin H2 (e1.trans e2) (evl_callLP (VatdfFlat.flatTable t) (eap_one (evl_P (evl_callL t (ea_cons (ev_var rfl) ea_nil) fun H3 e3 => ⟨_, rfl, ht.ex ((e1.trans e2).trans e3), hw⟩))) fun vs H3 e3 ⟨v, h1, b, h2, h3⟩ => ⟨v, h1, by omega, b, h2, h3⟩) k
  rw [decide_eq_false_iff_not] at hc
  rw [if_neg hc] at k
  have e2' := e1.trans e2
  refine Evl.q_when (test 4 H2 e2') (fun hc H3 e3 => ?_) fun hc H3 e3 => ?_
  · rw [decide_eq_true_eq] at hc
    rw [if_pos hc] at k
    rw [hc] at hhd
    have hlen : c.heads.length = 3 := hhd
    exact fin H3 (e2'.trans e3) (evl_callL (t, iat c.heads 1, iat c.heads 2) (ea_cons (ev_var rfl) (ea_cons (hd 1 H3 (e2'.trans e3) (by omega)) (ea_cons (hd 2 H3 (e2'.trans e3) (by omega)) ea_nil))) fun H4 e4 => ⟨_, _, _, rfl, ht.ex ((e2'.trans e3).trans e4), rfl, rfl, hw⟩) k
  rw [decide_eq_false_iff_not] at hc
  rw [if_neg hc] at k
  have e3' := e2'.trans e3
  refine Evl.q_when (test 5 H3 e3') (fun hc H4 e4 => ?_) fun hc H4 e4 => ?_
  · rw [decide_eq_true_eq] at hc
    rw [if_pos hc] at k
    rw [hc] at hhd
    have hlen : c.heads.length = 2 := hhd
    exact fin H4 (e3'.trans e4) (evl_callL (t, iat c.heads 1) (ea_cons (ev_var rfl) (ea_cons (hd 1 H4 (e3'.trans e4) (by omega)) ea_nil)) fun H5 e5 => ⟨_, _, rfl, ht.ex ((e3'.trans e4).trans e5), rfl, hw⟩) k
  rw [decide_eq_false_iff_not] at hc
  rw [if_neg hc] at k
  have e4' := e3'.trans e4
  refine Evl.q_when (test 6 H4 e4') (fun hc H5 e5 => ?_) fun hc H5 e5 => ?_
  · rw [decide_eq_true_eq] at hc
    rw [if_pos hc] at k
    exact fin H5 (e4'.trans e5) (evl_callL (t, c.listed) (ea_cons (ev_var rfl) (ea_cons (hls H5 (e4'.trans e5)) ea_nil)) fun H6 e6 => ⟨_, _, rfl, ht.ex ((e4'.trans e5).trans e6), hsz, hbl H6 ((e4'.trans e5).trans e6), hw⟩) k
  rw [decide_eq_false_iff_not] at hc
  rw [if_neg hc] at k
  have e5' := e4'.trans e5
  refine Evl.q_when (test 7 H5 e5') (fun hc H6 e6 => ?_) fun hc H6 e6 => ?_
  · rw [decide_eq_true_eq] at hc
    rw [if_pos hc] at k
    exact fin H6 (e5'.trans e6) (evl_callL (t, c.listed) (ea_cons (ev_var rfl) (ea_cons (hls H6 (e5'.trans e6)) ea_nil)) fun H7 e7 => ⟨_, _, rfl, ht.ex ((e5'.trans e6).trans e7), hsz, hbl H7 ((e5'.trans e6).trans e7), hw⟩) k
  rw [decide_eq_false_iff_not] at hc
  rw [if_neg hc] at k
  have e6' := e5'.trans e6
  refine Evl.q_when (test 8 H6 e6') (fun hc H7 e7 => ?_) fun hc H7 e7 => ?_
  · rw [decide_eq_true_eq] at hc
    rw [if_pos hc] at k
    exact fin H7 (e6'.trans e7) (evl_callL t (ea_cons (ev_var rfl) ea_nil) fun H8 e8 => ⟨_, rfl, ht.ex ((e6'.trans e7).trans e8), hw⟩) k
  rw [decide_eq_false_iff_not] at hc
  rw [if_neg hc] at k
  exact fin H7 (e6'.trans e7) (evl_callL (t, c.listed) (ea_cons (ev_var rfl) (ea_cons (hls H7 (e6'.trans e7)) ea_nil)) fun H8 e8 => ⟨_, _, rfl, ht.ex ((e6'.trans e7).trans e8), hsz, hbl H8 ((e6'.trans e7).trans e8), hw⟩) k
end
end Tx
end

section
set_option Elab.async false
set_option linter.all false
set_option maxRecDepth 100000
set_option maxHeartbeats 4000000
set_option exponentiation.threshold 100000
namespace Tx
open PySem PySem.Spec PyProof.Rows L2
open Evl (Ex Ev EvL EvU EvT EvA EvO RV ev_c ev_var ea_nil ea_cons eo_none eo_some)
open VatdfBase (Cell Table)
/-! ### the desk -/
def dskF (s : V) : List (Str × V) := [("sides", s)]
theorem dsk_sides {s : V} : (dskF s).lookup ("sides" : Str) = some s := lk_here
theorem dsk_none {s : V} {m : Str} (h : (m == ("sides" : Str)) = false) : (dskF s).lookup m = none := (lk_past h).trans rfl
/-- a side -/
def isSd (K : PySem.W.Frag) (ad : Ads) (H0 : Hp) (o : Option Table) (v : V) (H : Hp) : Prop := match o with
  | none => v = .non
  | some t => isTabF K ad H0 t v H ∧ Wf t
/-- the desk and its list -/
structure isDk (K : PySem.W.Frag) (ad : Ads) (H0 H : Hp) (dk sl : Addr) (s : Vatdfa.State) : Prop where
  ins : ∃ dx, H dk = some (.ins ad.Desk dx (dskF (.ref sl)))
  sd : ∃ x y, H sl = some (.lst [x, y]) ∧ isSd K ad H0 s.left x H ∧ isSd K ad H0 s.right y H
  old : ∃ o, H0 sl = some o
  dm : Dm H0 H
section
variable {K : PySem.W.Frag} {ad : Ads} {H0 H H' : Hp} {dk sl : Addr} {s : Vatdfa.State}
theorem isSd.ex {o : Option Table} {v : V} (e : Ex H H') (h : isSd K ad H0 o v H) : isSd K ad H0 o v H' := by
  cases o with
  | none => exact h
  | some t => exact ⟨h.1.ex e, h.2⟩
theorem isSd.upd {o : Option Table} {v : V} {p : Addr} {xs zs : List V} {u : HO} (h : isSd K ad H0 o v H) (hp : H p = some (.lst xs)) (h0 : H0 p = some u) : isSd K ad H0 o v (upd H p (.lst zs)) := by
  cases o with
  | none => exact h
  | some t => exact ⟨h.1.upd hp h0, h.2⟩
theorem isDk.ex (e : Ex H H') (h : isDk K ad H0 H dk sl s) : isDk K ad H0 H' dk sl s := by
  obtain ⟨⟨dx, h1⟩, ⟨x, y, h2, h3, h4⟩, h5, h6⟩ := h
  exact ⟨⟨dx, e _ _ h1⟩, ⟨x, y, e _ _ h2, h3.ex e, h4.ex e⟩, h5, h6.ex e⟩
/-- another old list changes -/
theorem isDk.upd {p : Addr} {xs zs : List V} {u : HO} (h : isDk K ad H0 H dk sl s) (hp : H p = some (.lst xs)) (h0 : H0 p = some u) (hn : p ≠ sl) : isDk K ad H0 (upd H p (.lst zs)) dk sl s := by
  obtain ⟨⟨dx, h1⟩, ⟨x, y, h2, h3, h4⟩, h5, h6⟩ := h
  exact ⟨⟨dx, by rw [upd_ne (ne_of h1 hp (by intro z; cases z))]; exact h1⟩, ⟨x, y, by rw [upd_ne hn.symm]; exact h2, h3.upd hp h0, h4.upd hp h0⟩, h5, h6.upd⟩
/-- a table kept -/
theorem isDk.put {k : Nat} {t : Table} {v : V} (h : isDk K ad H0 H dk sl s) (hk : k < 2) (ht : isTabF K ad H0 t v H) (hw : Wf t) : ∃ x y, H sl = some (.lst [x, y]) ∧ isDk K ad H0 (L2.upd H sl (.lst ([x, y].set k v))) dk sl (Vatdfa.put s k t) := by
  obtain ⟨⟨dx, h1⟩, ⟨x, y, h2, h3, h4⟩, ⟨o, h5⟩, h6⟩ := h
  refine ⟨x, y, h2, ⟨⟨dx, by rw [upd_ne (ne_of h1 h2 (by intro z; cases z))]; exact h1⟩, ?_, ⟨o, h5⟩, h6.upd⟩⟩
  have hk' : k = 0 ∨ k = 1 := by omega
  rcases hk' with rfl | rfl
  · exact ⟨v, y, upd_same, ⟨ht.upd h2 h5, hw⟩, h4.upd h2 h5⟩
  · exact ⟨x, v, upd_same, h3.upd h2 h5, ⟨ht.upd h2 h5, hw⟩⟩
/-- what a step does to the heap: at the most the sides' list changes -/
def Chg (sl : Addr) (H H' : Hp) : Prop := Ex H H' ∨ ∃ H1 zs, Ex H H1 ∧ Ex (upd H1 sl (.lst zs)) H'
theorem Chg.keep {P : Hp → Prop} {xs : List V} (h : Chg sl H H') (hs : H sl = some (.lst xs)) (m : ∀ A B, Ex A B → P A → P B) (u : ∀ A zs, A sl = some (.lst xs) → P A → P (upd A sl (.lst zs))) (p : P H) : P H' := by
  rcases h with e | ⟨H1, zs, e1, e2⟩
  · exact m _ _ e p
  · exact m _ _ e2 (u _ _ (e1 _ _ hs) (m _ _ e1 p))
theorem Chg.ex_left (e : Ex H H1) (h : Chg sl H1 H') : Chg sl H H' := by
  rcases h with e2 | ⟨H2, zs, e2, e3⟩
  · exact .inl (e.trans e2)
  · exact .inr ⟨H2, zs, e.trans e2, e3⟩
theorem Chg.none_back {p : Addr} (e : Ex H H1) (h : H1 p = none) : H p = none := Evl.fresh_back e h
/-- the promise of what plays with the desk -/
def spDk {α : Type} (K : PySem.W.Frag) (ad : Ads) (pre : α → List V → Hp → Prop) (ans : α → Vatdfa.State → Vatdfa.State × List Int) : Sp := fun vs H Q _ => ∃ (x : α) (dk sl : Addr) (H0 : Hp) (s : Vatdfa.State) (ws : List V),
  vs = .ref dk :: ws ∧ isDk K ad H0 H dk sl s ∧ pre x ws H ∧ ∀ p H', H p = none → Chg sl H H' → isDk K ad H0 H' dk sl (ans x s).1 → H' p = some (.lst ((ans x s).2.map V.int)) → Q (.ref p) H'
theorem dk_call {α : Type} {pre : α → List V → Hp → Prop} {ans : α → Vatdfa.State → Vatdfa.State × List Int} {σ : L2.St} {ta : TA} {ws : List V} {E : XK} {Q : VK} (x : α) (hA : EvA ta σ H (.ref dk :: ws)) (hd : isDk K ad H0 H dk sl s) (hp : ∀ H1, Ex H H1 → pre x ws H1)
    (k : ∀ p H', H p = none → Chg sl H H' → isDk K ad H0 H' dk sl (ans x s).1 → H' p = some (.lst ((ans x s).2.map V.int)) → Q (.ref p) H') : tCall (spDk K ad pre ans) [] E ta σ H Q :=
  hA H (Ex.refl H) _ fun H1 e1 => ⟨x, dk, sl, H0, s, ws, by rw [List.append_nil], hd.ex e1, hp H1 e1, fun p H' n c d q => k p H' (Evl.fresh_back e1 n) (c.ex_left e1) d q⟩
end
/-- a side of the list -/
def spTb (ad : Ads) : Sp := fun vs H Q _ => ∃ (dk sl dx : Addr) (x y : V) (k : Nat), vs = [.ref dk, .int (k : Nat)] ∧ k < 2 ∧ H dk = some (.ins ad.Desk dx (dskF (.ref sl))) ∧ H sl = some (.lst [x, y]) ∧ ∀ H', Ex H H' → Q (if k = 0 then x else y) H'
theorem lTb {ad : Ads} : ∀ vs H Q E, spTb ad vs H Q E → vs.length = 2 := fun _ _ _ _ ⟨_, _, _, _, _, _, e, _⟩ => by rw [e]; rfl
def spKp (ad : Ads) : Sp := fun vs H Q _ => ∃ (dk sl dx : Addr) (x y v : V) (k : Nat), vs = [.ref dk, .int (k : Nat), v] ∧ k < 2 ∧ H dk = some (.ins ad.Desk dx (dskF (.ref sl))) ∧ H sl = some (.lst [x, y]) ∧ ∀ H1, Ex H H1 → Q .non (upd H1 sl (.lst ([x, y].set k v)))
theorem lKp {ad : Ads} : ∀ vs H Q E, spKp ad vs H Q E → vs.length = 3 := fun _ _ _ _ ⟨_, _, _, _, _, _, _, e, _⟩ => by rw [e]; rfl
def spDi (ad : Ads) : Sp := fun vs H Q _ => ∃ (p dx : Addr), vs = [.ref p] ∧ H p = some (.ins ad.Desk dx []) ∧
  ∀ sl H1, H sl = none → Ex H H1 → H1 sl = some (.lst [.non, .non]) → Q .non (upd H1 p (.ins ad.Desk dx (dskF (.ref sl))))
theorem lDi {ad : Ads} : ∀ vs H Q E, spDi ad vs H Q E → vs.length = 1 := fun _ _ _ _ ⟨_, _, e, _⟩ => by rw [e]; rfl
section
variable {ad : Ads} {σ : L2.St} {H : Hp} {te ti : TE} {dk sl dx : Addr} {x y v : V} {k : Nat} {m : Str} {E : XK} {Q : VK}
theorem ev_tb (h : Ev te σ H (.ref dk)) (hi : Ev ti σ H (.int (k : Nat))) (hk : k < 2) (hd : H dk = some (.ins ad.Desk dx (dskF (.ref sl)))) (hs : H sl = some (.lst [x, y])) (hm : (m == ("sides" : Str)) = false := by decide +kernel) : Ev (tMeth ad.Desk m (spTb ad) [] E te (tCons ti tNil)) σ H (if k = 0 then x else y) := fun H1 e1 Q q =>
  h H1 e1 _ fun H2 e2 => ⟨dk, dx, _, rfl, (e1.trans e2) _ _ hd, dsk_none hm, (ea_cons hi ea_nil) H2 (e1.trans e2) _ fun H3 e3 => ⟨dk, sl, dx, x, y, k, rfl, hk, ((e1.trans e2).trans e3) _ _ hd, ((e1.trans e2).trans e3) _ _ hs, fun H4 e4 => q H4 ((e2.trans e3).trans e4)⟩⟩
theorem t_kp {tv : TE} (h : Ev te σ H (.ref dk)) (hi : Ev ti σ H (.int (k : Nat))) (hv : Ev tv σ H v) (hk : k < 2) (hd : H dk = some (.ins ad.Desk dx (dskF (.ref sl)))) (hs : H sl = some (.lst [x, y])) (q : ∀ H1, Ex H H1 → Q .non (upd H1 sl (.lst ([x, y].set k v)))) (hm : (m == ("sides" : Str)) = false := by decide +kernel) : tMeth ad.Desk m (spKp ad) [] E te (tCons ti (tCons tv tNil)) σ H Q :=
  h H (Ex.refl H) _ fun H2 e2 => ⟨dk, dx, _, rfl, e2 _ _ hd, dsk_none hm, (ea_cons hi (ea_cons hv ea_nil)) H2 e2 _ fun H3 e3 => ⟨dk, sl, dx, x, y, v, k, rfl, hk, (e2.trans e3) _ _ hd, (e2.trans e3) _ _ hs, fun H4 e4 => q H4 ((e2.trans e3).trans e4)⟩⟩
end
section
variable {P : Program} {w : World} {K : PySem.W.Frag} {mg : Str → Option Value} {base : Heap} {ad : Ads}
theorem in_Desk (T : Tops K mg ad) : Ini P w K mg base "Desk" ad.Desk 1 ["self"] (spDi ad) := by
  refine Ini.mk' T.i_Desk sc_Desk_init lDi fun cdv f A outer s H E hr => ⟨_, (pss_one (ps_fld (pv 0) (pe_lst (pa_cons pe_non (pa_cons pe_non pa_nil))) rfl)), ?_⟩
  rintro vs Q ⟨p, dx, rfl, hp, k⟩
  have h := Evl.el_lst (σ := [some (.ref p)]) (H := H) (ea_cons (ev_c (v := .non)) (ea_cons (ev_c (v := .non)) ea_nil)) (by show 2 ≤ 100000; decide)
  refine h H (Ex.refl H) _ fun sl H1 ns e1 hs => ?_
  refine ⟨_, rfl, p, ad.Desk, dx, [], rfl, e1 _ _ hp, T.k_Desk, T.a_Desk_sides, (by show 0 < 1000; decide), ?_⟩
  exact k sl H1 ns e1 hs
theorem me_Desk_table (T : Tops K mg ad) : Me P w K mg base ad.Desk "table" 1 ["self", "side"] (spTb ad) := by
  refine Me.mk' T.m_Desk_table sc_Desk_table lTb fun cdv f A outer s H E hr => ⟨_, (pss_one (ps_ret (pe_ix ix_list (pe_fld (pv 0) rfl) (pv 1) (fun _ _ => rfl)))), ?_⟩
  rintro vs Q ⟨dk, sl, dx, x, y, n, rfl, hn, hd, hs, k⟩
  refine Evl.s_ret (ev_ixL (i := (n : Nat)) (ev_fld (ev_var rfl) hd T.k_Desk T.a_Desk_sides dsk_sides) (ev_var rfl) (SqL.of hs) (atI_nat ?_)) k
  have hn' : n = 0 ∨ n = 1 := by omega
  rcases hn' with rfl | rfl <;> rfl
theorem me_Desk_keep (T : Tops K mg ad) : Me P w K mg base ad.Desk "keep" 1 ["self", "side", "table"] (spKp ad) := by
  refine Me.mk' T.m_Desk_keep sc_Desk_keep lKp fun cdv f A outer s H E hr => ⟨_, (pss_one (ps_asg (pv 2) (pg_sub (pe_fld (pv 0) rfl) (pv 1) set_list))), ?_⟩
  rintro vs Q ⟨dk, sl, dx, x, y, v, n, rfl, hn, hd, hs, k⟩
  exact Evl.s_setL hs (ev_var rfl) (ev_fld (ev_var rfl) hd T.k_Desk T.a_Desk_sides dsk_sides) (ev_var rfl) hn k
/-- the text of a call -/
def txt (l : List Int) : List Nat := l.map Int.toNat
def loadOf (k : Nat) (t : List Nat) (s : Vatdfa.State) : Vatdfa.State × List Int := if Vatdfa.TEXT < t.length then (s, [-1]) else match Vatdfa.read t with
  | .error f => (s, [1, Vatdfa.int f.kind, Vatdfa.int f.place])
  | .ok x => (Vatdfa.put s k x, [0, Vatdfa.int x.names.length, Vatdfa.int x.rows.length])
def takeOf (k : Nat) (l : List Int) (s : Vatdfa.State) : Vatdfa.State × List Int := match VatdfFlat.tableOf l with
  | none => (s, [-1])
  | some x => (Vatdfa.put s k x, [Vatdfa.int x.names.length, Vatdfa.int x.rows.length])
def alikeOf (s : Vatdfa.State) : Vatdfa.State × List Int := match s.left, s.right with
  | some a, some b => (s, [Vatdfa.int (Vatdfa.alike a b)])
  | _, _ => (s, [-8])
theorem lDk {α : Type} {n : Nat} {K : PySem.W.Frag} {ad : Ads} {pre : α → List V → Hp → Prop} {ans : α → Vatdfa.State → Vatdfa.State × List Int} (h : ∀ x ws H, pre x ws H → ws.length = n) : ∀ vs H Q E, spDk K ad pre ans vs H Q E → vs.length = n + 1 := fun _ _ _ _ ⟨_, _, _, _, _, _, e, _, p, _⟩ => by rw [e, List.length_cons, h _ _ _ p]
theorem fn_load (T : Tops K mg ad) : Fn P w K mg base "load" 8 ["desk", "side", "text"] (spDk K ad (A2 fun (x : Nat × List Nat) v u H => v = .int (x.1 : Nat) ∧ x.1 < 2 ∧ x.2.length ≤ 2000 ∧ isX K x.2 u H) (fun x s => loadOf x.1 x.2 s)) := by
  refine Fn.mk' T.f_load sc_load (lDk fun _ _ _ ⟨_, _, e, _⟩ => by rw [e]; rfl) fun cdv f A outer s H E hr => ⟨_, (pss_cons (ps_if (pt_cmpR op_gt (pe_callB call_len_seq (by rfl) T.b_len PySem.boot_len (pa_cons (pv 2) pa_nil)) (pe_gi T.c_MOST_BYTES) (nomark _)) (pss_one (ps_ret (pe_lst (pa_cons (pe_un un_neg pe_int) pa_nil)))) pss_nil)
      (pss_cons (ps_set (i := 3) sc_load.nd rfl (Or.inl rfl) (pe_fn (fn_text_fault T) (hr.mono (by decide)) (pa_cons (pv 2) pa_nil)))
      (pss_cons (ps_if (pt_cmpR (op_neD hr.units) (pv 3) (pe_gr T.c_NO_FAULT) (nomark _)) (pss_one (ps_ret (pe_lst (pa_cons pe_int (pa_cons (pe_ix ix_tup (pv 3) pe_int (fun _ _ => rfl)) (pa_cons (pe_ix ix_tup (pv 3) pe_int (fun _ _ => rfl)) pa_nil)))))) pss_nil)
      (pss_cons (ps_set (i := 4) sc_load.nd rfl (Or.inl rfl) (pe_fn (fn_text_table T) (hr.mono (by decide)) (pa_cons (pv 2) pa_nil)))
      (pss_cons (ps_expr (pe_me (me_Desk_keep T) T.k_Desk (hr.mono (by decide)) (pv 0) (pa_cons (pv 1) (pa_cons (pv 4) pa_nil))))
      (pss_one (ps_ret (pe_lst (pa_cons pe_int (pa_cons (pe_callB call_len_seq (by rfl) T.b_len PySem.boot_len (pa_cons (pe_fld (pv 4) rfl) pa_nil)) (pa_cons (pe_callB call_len_seq (by rfl) T.b_len PySem.boot_len (pa_cons (pe_fld (pv 4) rfl) pa_nil)) pa_nil))))))))))), ?_⟩
  rintro vs Q ⟨⟨n, t⟩, dk, sl, H0, s, ws, rfl, hdk, ⟨v, u, rfl, rfl, hn, hz, a, rfl, ha⟩, k⟩
  change n < 2 at hn
  change t.length ≤ 2000 at hz
  change SqL K H a (nV t) at ha
  change ∀ p H', H p = none → Chg sl H H' → isDk K ad H0 H' dk sl (loadOf n t s).1 → H' p = some (.lst ((loadOf n t s).2.map V.int)) → Q (.ref p) H' at k
  unfold loadOf at k
  refine Evl.q_when (Evl.et_test (ev_bool (ev_I0 (ev_lenX (ev_var rfl) ha) ev_c) (show decide ((t.length : Int) > 1000) = decide (1000 < t.length) from decide_eq_decide.mpr (by omega)))) (fun hb H1 e1 => ?_) fun hb H1 e1 => ?_
  · rw [decide_eq_true_eq] at hb
    rw [if_pos (show Vatdfa.TEXT < t.length from hb)] at k
    exact Evl.s_retL (evl_neg1 1) fun p H2 np e2 hp => k p H2 (Evl.fresh_back e1 np) (.inl (e1.trans e2)) (hdk.ex (e1.trans e2)) hp
  · rw [decide_eq_false_iff_not] at hb
    rw [if_neg (show ¬ Vatdfa.TEXT < t.length from hb)] at k
    have hz' : t.length ≤ 1000 := by omega
    refine q_asgP (evp_callP t (ea_cons (ev_var rfl) ea_nil) fun H2 e2 => ⟨_, rfl, hz', a, rfl, SqL.ex (e1.trans e2) ha⟩) fun v H2 e2 hv => ?_
    have e12 := e1.trans e2
    rcases read_is t with ⟨h1, h2⟩ | ⟨f, h0, h1, h2⟩
    · rw [h2] at k
      rw [h1] at hv
      have hw := read_wf h2
      refine Evl.q_when (b := false) (Evl.et_test (ev_isfault T (ev_var rfl) hv)) (fun q => by cases q) fun _ H3 e3 => ?_
      refine q_asgP (evp_callP (t, H0) (ea_cons (ev_var rfl) ea_nil) fun H4 e4 => ⟨_, rfl, hz', ⟨a, rfl, SqL.ex ((e12.trans e3).trans e4) ha⟩, hdk.dm.ex ((e12.trans e3).trans e4)⟩) fun tv H4 e4 ht => ?_
      have e14 := (e12.trans e3).trans e4
      have hdk4 := hdk.ex e14
      obtain ⟨x, y, hs, hput⟩ := hdk4.put hn ht hw
      obtain ⟨⟨dx, hins⟩, _⟩ := hdk4
      refine t_kp (ev_var rfl) (ev_var rfl) (ev_var rfl) hn hins hs fun H7 e47 => ?_
      have ht7 := ht.ex e47
      have hdk7 : isDk K ad H0 H7 dk sl s := (hdk.ex e14).ex e47
      obtain ⟨x', y', hs', hput'⟩ := hdk7.put hn ht7 hw
      rw [e47 _ _ hs] at hs'
      cases hs'
      obtain ⟨o, ho⟩ := hdk.old
      obtain ⟨b, ln, lr, ns, rs, rfl, hta⟩ := (ht7.upd (zs := [x, y].set n tv) (e47 _ _ hs) ho).tab
      refine Evl.s_retL (Evl.el_lst (vs := [.int 0, .int ((textTable t).names.length : Nat), .int ((textTable t).rows.length : Nat)]) (ea_cons (ev_c (v := .int 0)) (ea_cons (ev_int (ev_lenL (ev_names T (ev_var rfl) hta) hta.nl) (by rw [len_names hta])) (ea_cons (ev_int (ev_lenL (ev_rows T (ev_var rfl) hta) hta.rl) (by rw [len_rows hta])) ea_nil))) (by show 3 ≤ 100000; decide)) fun p H8 np e8 hp => k p H8 ?_ (.inr ⟨H7, _, e14.trans e47, e8⟩) (hput'.ex e8) hp
      by_cases q : p = sl
      · rw [q, upd_same] at np; cases np
      · rw [upd_ne q] at np; exact Evl.fresh_back (e14.trans e47) np
    · rw [h2] at k
      rw [h1] at hv
      have hne : decide ((f.kind, f.place) = (0, 0)) = false := decide_eq_false fun z => h0 (congrArg (·.1) z)
      have ht := ev_isfault (σ := [some (.ref dk), some (.int (n : Nat)), some (.ref a), some v, none]) T (ev_var (i := 3) rfl) hv
      rw [hne] at ht
      refine Evl.q_when (b := true) (Evl.et_test ht) (fun _ H3 e3 => ?_) fun q => by cases q
      obtain ⟨b, rfl, hb2⟩ := dp_tupI.mp (Dp.ex e3 hv)
      exact Evl.s_retL (Evl.el_lst (vs := [.int 1, .int (f.kind : Nat), .int (f.place : Nat)]) (ea_cons (ev_c (v := .int 1)) (ea_cons (ev_ixT (v := .int (f.kind : Nat)) (ev_var rfl) ev_c hb2 (atI_nat (j := 0) rfl)) (ea_cons (ev_ixT (v := .int (f.place : Nat)) (ev_var rfl) ev_c hb2 (atI_nat (j := 1) rfl)) ea_nil))) (by show 3 ≤ 100000; decide)) fun p H8 np e8 hp => k p H8 (Evl.fresh_back (e12.trans e3) np) (.inl ((e12.trans e3).trans e8)) (hdk.ex ((e12.trans e3).trans e8)) hp
theorem fn_take (T : Tops K mg ad) : Fn P w K mg base "take" 6 ["desk", "side", "numbers"] (spDk K ad (A2 fun (x : Nat × List Int) v u H => v = .int (x.1 : Nat) ∧ x.1 < 2 ∧ x.2.length ≤ 1000 ∧ isL K x.2 u H) (fun x s => takeOf x.1 x.2 s)) := by
  refine Fn.mk' T.f_take sc_take (lDk fun _ _ _ ⟨_, _, e, _⟩ => by rw [e]; rfl) fun cdv f A outer s H E hr => ⟨_, (pss_cons (ps_set (i := 3) sc_take.nd rfl (Or.inl rfl) (pe_fn (fn_taken_table T) (hr.mono (by decide)) (pa_cons (pv 2) pa_nil)))
      (pss_cons (ps_if (pt_cmpR op_isN (pv 3) pe_non (nomark _)) (pss_one (ps_ret (pe_lst (pa_cons (pe_un un_neg pe_int) pa_nil)))) pss_nil)
      (pss_cons (ps_expr (pe_me (me_Desk_keep T) T.k_Desk (hr.mono (by decide)) (pv 0) (pa_cons (pv 1) (pa_cons (pv 3) pa_nil))))
      (pss_one (ps_ret (pe_lst (pa_cons (pe_callB call_len_seq (by rfl) T.b_len PySem.boot_len (pa_cons (pe_fld (pv 3) rfl) pa_nil)) (pa_cons (pe_callB call_len_seq (by rfl) T.b_len PySem.boot_len (pa_cons (pe_fld (pv 3) rfl) pa_nil)) pa_nil)))))))), ?_⟩
  rintro vs Q ⟨⟨n, l⟩, dk, sl, H0, s, ws, rfl, hdk, ⟨v, u, rfl, rfl, hn, hz, hl⟩, k⟩
  change n < 2 at hn
  change l.length ≤ 1000 at hz
  change isL K l u H at hl
  change ∀ p H', H p = none → Chg sl H H' → isDk K ad H0 H' dk sl (takeOf n l s).1 → H' p = some (.lst ((takeOf n l s).2.map V.int)) → Q (.ref p) H' at k
  unfold takeOf at k
  refine q_asgP (evp_callP (l, H0) (ea_cons (ev_var rfl) ea_nil) fun H2 e2 => ⟨_, rfl, hz, hl.ex e2, hdk.dm.ex e2⟩) fun v H2 e2 hv => ?_
  change (match takenTable l with | none => v = .non | some t => isTabF K ad H0 t v H2) at hv
  rw [takenTable_is] at hv
  cases htb : VatdfFlat.tableOf l with
  | none =>
    rw [htb] at hv k
    change v = .non at hv
    subst hv
    refine Evl.q_when (Evl.et_test (ev_isN (ev_var rfl) (b := true) rfl)) (fun _ H3 e3 => ?_) fun q => by cases q
    exact Evl.s_retL (evl_neg1 1) fun p H4 np e4 hp => k p H4 (Evl.fresh_back (e2.trans e3) np) (.inl ((e2.trans e3).trans e4)) (hdk.ex ((e2.trans e3).trans e4)) hp
  | some t =>
    rw [htb] at hv k
    change isTabF K ad H0 t v H2 at hv
    have hw := tableOf_wf htb
    have hnn : decide (v = V.non) = false := by
      obtain ⟨a, _, _, _, _, rfl, _⟩ := hv
      rfl
    refine Evl.q_when (Evl.et_test (ev_isN (ev_var rfl) hnn)) (fun q => by cases q) fun _ H4 e4 => ?_
    have e14 := e2.trans e4
    have ht := hv.ex e4
    have hdk4 := hdk.ex e14
    obtain ⟨x, y, hs, hput⟩ := hdk4.put hn ht hw
    obtain ⟨⟨dx, hins⟩, _⟩ := hdk4
    refine t_kp (ev_var rfl) (ev_var rfl) (ev_var rfl) hn hins hs fun H7 e47 => ?_
    have ht7 := ht.ex e47
    have hdk7 : isDk K ad H0 H7 dk sl s := (hdk.ex e14).ex e47
    obtain ⟨x', y', hs', hput'⟩ := hdk7.put hn ht7 hw
    rw [e47 _ _ hs] at hs'
    cases hs'
    obtain ⟨o, ho⟩ := hdk.old
    obtain ⟨b, ln, lr, ns, rs, rfl, hta⟩ := (ht7.upd (zs := [x, y].set n v) (e47 _ _ hs) ho).tab
    refine Evl.s_retL (Evl.el_lst (vs := [.int (t.names.length : Nat), .int (t.rows.length : Nat)]) (ea_cons (ev_int (ev_lenL (ev_names T (ev_var rfl) hta) hta.nl) (by rw [len_names hta])) (ea_cons (ev_int (ev_lenL (ev_rows T (ev_var rfl) hta) hta.rl) (by rw [len_rows hta])) ea_nil)) (by show 2 ≤ 100000; decide)) fun p H8 np e8 hp => k p H8 ?_ (.inr ⟨H7, _, e14.trans e47, e8⟩) (hput'.ex e8) hp
    by_cases q : p = sl
    · rw [q, upd_same] at np; cases np
    · rw [upd_ne q] at np; exact Evl.fresh_back (e14.trans e47) np
theorem fn_alike (T : Tops K mg ad) : Fn P w K mg base "alike" 4 ["desk"] (spDk K ad (fun (_ : Unit) ws _ => ws = []) (fun _ s => alikeOf s)) := by
  refine Fn.mk' T.f_alike sc_alike (lDk fun _ _ _ e => by rw [e]; rfl) fun cdv f A outer s H E hr => ⟨_, (pss_cons (ps_set (i := 1) sc_alike.nd rfl (Or.inl rfl) (pe_me (me_Desk_table T) T.k_Desk (hr.mono (by decide)) (pv 0) (pa_cons pe_int pa_nil)))
      (pss_cons (ps_set (i := 2) sc_alike.nd rfl (Or.inl rfl) (pe_me (me_Desk_table T) T.k_Desk (hr.mono (by decide)) (pv 0) (pa_cons pe_int pa_nil)))
      (pss_cons (ps_if (PW.pt (pw_or (pt_cmpR op_isN (pv 1) pe_non (nomark _)) (pw_or1 (pt_cmpR op_isN (pv 2) pe_non (nomark _))))) (pss_one (ps_ret (pe_lst (pa_cons (pe_un un_neg pe_int) pa_nil)))) pss_nil)
      (pss_one (ps_ret (pe_lst (pa_cons (pe_fn (fn_how_alike T) (hr.mono (by decide)) (pa_cons (pv 1) (pa_cons (pv 2) pa_nil))) pa_nil))))))), ?_⟩
  rintro vs Q ⟨_, dk, sl, H0, s, ws, rfl, hdk, rfl, k⟩
  change ∀ p H', H p = none → Chg sl H H' → isDk K ad H0 H' dk sl (alikeOf s).1 → H' p = some (.lst ((alikeOf s).2.map V.int)) → Q (.ref p) H' at k
  unfold alikeOf at k
  obtain ⟨⟨dx, hins⟩, ⟨x, y, hs, hx, hy⟩, _⟩ := id hdk
  refine Evl.q_asg (ev_tb (k := 0) (ev_var rfl) ev_c (by decide) hins hs) fun H1 e1 => ?_
  refine Evl.q_asg (ev_tb (k := 1) (ev_var rfl) ev_c (by decide) (e1 _ _ hins) (e1 _ _ hs)) fun H2 e2 => ?_
  have e12 := e1.trans e2
  have isn : ∀ {o : Option Table} {v : V} {H : Hp}, isSd K ad H0 o v H → decide (v = .non) = o.isNone := by
    intro o v H h
    cases o with
    | none => change v = .non at h; rw [h]; rfl
    | some t =>
      obtain ⟨⟨a, _, _, _, _, rfl, _⟩, _⟩ := h
      rfl
  refine Evl.q_when (Evl.et_or (Evl.et_test (ev_isN (ev_var rfl) (isn hx))) fun _ => Evl.et_test (ev_isN (ev_var rfl) (isn hy))) (fun hb H3 e3 => ?_) fun hb H3 e3 => ?_
  · have hk : (match s.left, s.right with | some a, some b => (s, [Vatdfa.int (Vatdfa.alike a b)]) | _, _ => (s, ([-8] : List Int))) = (s, [-8]) := by
      cases hl : s.left with
      | none => rfl
      | some a =>
        cases hr : s.right with
        | none => rfl
        | some b => rw [hl, hr] at hb; cases hb
    rw [hk] at k
    exact Evl.s_retL (evl_neg1 8) fun p H4 np e4 hp => k p H4 (Evl.fresh_back (e12.trans e3) np) (.inl ((e12.trans e3).trans e4)) (hdk.ex ((e12.trans e3).trans e4)) hp
  · cases hl : s.left with
    | none => rw [hl] at hb; cases hb
    | some a =>
      cases hr : s.right with
      | none => rw [hl, hr] at hb; cases hb
      | some b =>
        rw [hl] at hx
        rw [hr] at hy
        rw [hl, hr] at k
        have e13 := e12.trans e3
        exact Evl.s_retL (Evl.el_lst (vs := [.int (Vatdfa.alike a b : Nat)]) (ea_cons (ev_callV (a, b) (ea_cons (ev_var rfl) (ea_cons (ev_var rfl) ea_nil)) fun H4 e4 => ⟨_, _, rfl, (hx.1.ex (e13.trans e4)).tab, (hy.1.ex (e13.trans e4)).tab, hx.2, hy.2⟩) ea_nil) (by show 1 ≤ 100000; decide)) fun p H4 np e4 hp => k p H4 (Evl.fresh_back e13 np) (.inl (e13.trans e4)) (hdk.ex (e13.trans e4)) hp
end
end Tx
end

section
set_option Elab.async false
set_option linter.all false
set_option maxRecDepth 100000
set_option maxHeartbeats 4000000
set_option exponentiation.threshold 100000
namespace Tx
open PySem PySem.Spec PyProof.Rows L2
open Evl (Ex Ev EvL EvU EvT EvA EvO RV ev_c ev_var ea_nil ea_cons eo_none eo_some)
open VatdfBase (Cell Table)
/-! ### a call answered -/
def kOf (c : CallR) : Vatdfa.Call :=
  if c.deed = 0 then .load (iat c.heads 0) (txt c.listed) else if c.deed = 1 then .take (iat c.heads 0) c.listed else if c.deed = 2 then .shown (iat c.heads 0) else if c.deed = 3 then .told (iat c.heads 0)
  else if c.deed = 4 then .cell (iat c.heads 0) (iat c.heads 1) (iat c.heads 2) else if c.deed = 5 then .column (iat c.heads 0) (iat c.heads 1) else if c.deed = 6 then .find (iat c.heads 0) c.listed else if c.deed = 7 then .key (iat c.heads 0) c.listed
  else if c.deed = 8 then .keys (iat c.heads 0) else if c.deed = 9 then .sorted (iat c.heads 0) c.listed else .alike
def sideOf (s : Vatdfa.State) (a : Nat) : Option Table := if a = 0 then s.left else s.right
def answerOf (c : CallR) (s : Vatdfa.State) : Vatdfa.State × List Int :=
  if c.deed = 10 then alikeOf s else match Vatdfa.placeOf (iat c.heads 0) 1 with
  | none => (s, [-2])
  | some a => if c.deed = 0 then loadOf a (txt c.listed) s else if c.deed = 1 then takeOf a c.listed s else match sideOf s a with
    | none => (s, [-8])
    | some t => (s, askedOf t c)
theorem step_is {c : CallR} (h : c.deed ≤ 10) (s : Vatdfa.State) : Vatdfa.step s (kOf c) = answerOf c s := by
  obtain ⟨d, hs, l⟩ := c
  rcases deeds h with h | h | h | h | h | h | h | h | h | h | h <;> (change d = _ at h; subst h; rfl)
theorem cell_ok {t : Table} (hw : Wf t) (i a : Nat) : (VatdfFlat.flatCell (t.cell i a)).length ≤ 10 := by
  apply flatCell_len
  unfold VatdfBase.Table.cell VatdfBase.Table.row
  cases hr : t.rows[i]? with
  | none => rfl
  | some r =>
    show VatdfBase.isCell (VatdfBase.cellAt r a) = true
    unfold VatdfBase.cellAt
    cases hc : r[a]? with
    | none => rfl
    | some x => exact hw.rc r (List.mem_of_getElem? hr) x (List.mem_of_getElem? hc)
theorem askedOf_len {t : Table} (hw : Wf t) (c : CallR) : (askedOf t c).length ≤ 2550 := by
  unfold askedOf
  split
  · have := tableText_len hw
    simp [Vatdfa.listed, Vatdfa.ints]
    omega
  split
  · have := flatTable_len hw
    simp [counts]
    omega
  split
  · unfold aCell
    split
    · simp
    · rw [onCol_is hw]
      split
      · have := cell_ok hw (iat c.heads 1).toNat (iat c.heads 2).toNat
        omega
      · simp
  split
  · unfold aColumn
    rw [onCol_is hw]
    split
    · unfold colTold
      have h1 := told_len (cs := Vatdfa.column t (iat c.heads 1).toNat)
      have h2 : ((t.names[(iat c.heads 1).toNat]?).getD []).length ≤ 8 := by
        cases hn : t.names[(iat c.heads 1).toNat]? with
        | none => simp
        | some n => exact name_len hw (List.mem_of_getElem? hn)
      rw [List.length_append]
      simp [Vatdfa.listed, Vatdfa.ints]
      omega
    · simp
  split
  · unfold aFind
    split
    · simp
    · rename_i v _
      have h1 := flat_len (fun y : Nat × Nat => [Vatdfa.int y.1, Vatdfa.int y.2]) 2 (Vatdfa.spotsOf t v) fun _ _ => Nat.le_refl _
      have h2 := spots_len hw v
      unfold aSpots
      rw [List.length_cons]
      omega
  split
  · unfold aKey
    rw [onCols_is hw]
    split
    · split <;> simp
    · simp
  split
  · unfold aKeys
    have hk := keys_ok hw
    have h1 := flat_len Vatdfa.listed 6 (Vatdfa.keys t) fun s hs => by
      have := hk.2 s hs
      simp [Vatdfa.listed, Vatdfa.ints]
      omega
    rw [List.length_cons]
    omega
  · unfold aSorted
    rw [onCols_is hw]
    split
    · have := sorted_len (natsOf c.listed) hw
      simp [Vatdfa.listed, Vatdfa.ints]
      omega
    · simp
theorem answerOf_len {s : Vatdfa.State} (hl : ∀ t, s.left = some t → Wf t) (hr : ∀ t, s.right = some t → Wf t) (c : CallR) : (answerOf c s).2.length ≤ 2550 := by
  unfold answerOf
  split
  · unfold alikeOf
    split <;> simp
  · split
    · simp
    · rename_i a _
      split
      · unfold loadOf
        split
        · simp
        · split <;> simp
      split
      · unfold takeOf
        split <;> simp
      · split
        · simp
        · rename_i t ht
          refine askedOf_len ?_ c
          unfold sideOf at ht
          split at ht
          · exact hl t ht
          · exact hr t ht
theorem isDk.wf {K : PySem.W.Frag} {ad : Ads} {H0 H : Hp} {dk sl : Addr} {s : Vatdfa.State} (h : isDk K ad H0 H dk sl s) : (∀ t, s.left = some t → Wf t) ∧ ∀ t, s.right = some t → Wf t := by
  obtain ⟨_, ⟨x, y, _, h1, h2⟩, _⟩ := h
  constructor
  · intro t ht
    rw [ht] at h1
    exact h1.2
  · intro t ht
    rw [ht] at h2
    exact h2.2
def playL : Vatdfa.State → List CallR → List (List Int)
  | _, [] => []
  | s, c :: r => (answerOf c s).2 :: playL (answerOf c s).1 r
theorem told_app (a b : List (List Int)) : PyFlat.told (a ++ b) = PyFlat.told a ++ PyFlat.told b := by
  unfold PyFlat.told
  rw [List.flatMap_append]
section
variable {P : Program} {w : World} {K : PySem.W.Frag} {mg : Str → Option Value} {base : Heap} {ad : Ads}
theorem fn_answer (T : Tops K mg ad) : Fn P w K mg base "answer" 9 ["desk", "call"] (spDk K ad (A1 fun (x : CallR × Hp) v H => okC x.1 ∧ isCa K ad x.2 H v x.1) (fun x s => answerOf x.1 s)) := by
  refine Fn.mk' T.f_answer sc_answer (lDk fun _ _ _ ⟨_, e, _⟩ => by rw [e]; rfl) fun cdv f A outer s H E hr => ⟨_, (pss_cons (ps_if (pt_cmpR op_eq (pe_fld (pv 1) rfl) pe_int (nomark _)) (pss_one (ps_ret (pe_fn (fn_alike T) (hr.mono (by decide)) (pa_cons (pv 0) pa_nil)))) pss_nil)
      (pss_cons (ps_set (i := 2) sc_answer.nd rfl (Or.inl rfl) (pe_ix ix_list (pe_fld (pv 1) rfl) pe_int (fun _ _ => rfl)))
      (pss_cons (ps_if (PW.pt (pw_and (pt_cmpR op_ne (pv 2) pe_int (nomark _)) (pw_and1 (pt_cmpR op_ne (pv 2) pe_int (nomark _))))) (pss_one (ps_ret (pe_lst (pa_cons (pe_un un_neg pe_int) pa_nil)))) pss_nil)
      (pss_cons (ps_if (pt_cmpR op_eq (pe_fld (pv 1) rfl) pe_int (nomark _)) (pss_one (ps_ret (pe_fn (fn_load T) (hr.mono (by decide)) (pa_cons (pv 0) (pa_cons (pv 2) (pa_cons (pe_fld (pv 1) rfl) pa_nil)))))) pss_nil)
      (pss_cons (ps_if (pt_cmpR op_eq (pe_fld (pv 1) rfl) pe_int (nomark _)) (pss_one (ps_ret (pe_fn (fn_take T) (hr.mono (by decide)) (pa_cons (pv 0) (pa_cons (pv 2) (pa_cons (pe_fld (pv 1) rfl) pa_nil)))))) pss_nil)
      (pss_cons (ps_set (i := 3) sc_answer.nd rfl (Or.inl rfl) (pe_me (me_Desk_table T) T.k_Desk (hr.mono (by decide)) (pv 0) (pa_cons (pv 2) pa_nil)))
      (pss_cons (ps_if (pt_cmpR op_isN (pv 3) pe_non (nomark _)) (pss_one (ps_ret (pe_lst (pa_cons (pe_un un_neg pe_int) pa_nil)))) pss_nil)
      (pss_one (ps_ret (pe_fn (fn_asked T) (hr.mono (by decide)) (pa_cons (pv 3) (pa_cons (pv 1) pa_nil)))))))))))), ?_⟩
  rintro vs Q ⟨⟨c, Hc⟩, dk, sl, H0, s, ws, rfl, hdk, ⟨v, rfl, hok, hca⟩, k⟩
  change okC c at hok
  change isCa K ad Hc H v c at hca
  change ∀ p H', H p = none → Chg sl H H' → isDk K ad H0 H' dk sl (answerOf c s).1 → H' p = some (.lst ((answerOf c s).2.map V.int)) → Q (.ref p) H' at k
  obtain ⟨q, dx, a, b, rfl, hq, ha, hb, _⟩ := id hca
  have hhd := hok.hd
  unfold answerOf at k
  have test : ∀ (n : Nat) (x3 x4 : Option V) (H1 : Hp), Ex H H1 → EvT (tTest (tOp rEq (tFld K (tVar 1) "deed") (tC (.int (n : Nat))))) [some (.ref dk), some (.ref q), x3, x4] H1 (decide (c.deed = n)) := fun n _ _ H1 e1 => Evl.et_test (ev_bool (ev_eqI (ev_deed T (ev_var rfl) (e1 _ _ hq)) ev_c) (cast_eq _ n))
  refine Evl.q_when (test 10 _ _ H (Ex.refl H)) (fun hc H1 e1 => ?_) fun hc H1 e1 => ?_
  · rw [decide_eq_true_eq] at hc
    rw [if_pos hc] at k
    exact dk_call () (ea_cons (ev_var rfl) ea_nil) (hdk.ex e1) (fun _ _ => rfl) fun p H' n c d q => k p H' (Evl.fresh_back e1 n) (c.ex_left e1) d q
  rw [decide_eq_false_iff_not] at hc
  rw [if_neg hc] at k
  have hlen : 0 < c.heads.length := by
    rw [hhd]
    have := hok.dp
    rcases deeds hok.dp with h | h | h | h | h | h | h | h | h | h | h <;> first | (exact absurd h hc) | (rw [h]; decide)
  refine Evl.q_asg (ev_ixL (ev_heads T (ev_var rfl) (e1 _ _ hq)) ev_c (SqL.of (e1 _ _ ha)) (atI_nat (j := 0) (int_get hlen))) fun H2 e2 => ?_
  have e12 := e1.trans e2
  generalize hz : iat c.heads 0 = z at k ⊢
  refine Evl.q_when (Evl.et_and (Evl.et_test (ev_neI (ev_var rfl) ev_c)) fun _ => Evl.et_test (ev_neI (ev_var rfl) ev_c)) (fun hs H3 e3 => ?_) fun hs H3 e3 => ?_
  · rw [Bool.and_eq_true, Bool.not_eq_true', Bool.not_eq_true', decide_eq_false_iff_not, decide_eq_false_iff_not] at hs
    have hp : Vatdfa.placeOf z 1 = none := by
      unfold Vatdfa.placeOf Vatdfa.int
      rw [if_neg (by omega)]
    rw [hp] at k
    exact Evl.s_retL (evl_neg1 2) fun p H4 np e4 hp => k p H4 (Evl.fresh_back (e12.trans e3) np) (.inl ((e12.trans e3).trans e4)) (hdk.ex ((e12.trans e3).trans e4)) hp
  have hs' : z = 0 ∨ z = 1 := by
    by_cases h0 : z = 0
    · exact .inl h0
    · by_cases h1 : z = 1
      · exact .inr h1
      · rw [decide_eq_false h0, decide_eq_false h1] at hs; cases hs
  obtain ⟨n, rfl, hn⟩ : ∃ n : Nat, z = (n : Int) ∧ n < 2 := ⟨z.toNat, by omega, by omega⟩
  have hp : Vatdfa.placeOf (n : Int) 1 = some n := by
    unfold Vatdfa.placeOf Vatdfa.int
    rw [if_pos (by omega)]
    rfl
  rw [hp] at k
  change ∀ p H', H p = none → Chg sl H H' → isDk K ad H0 H' dk sl (if c.deed = 0 then loadOf n (txt c.listed) s else if c.deed = 1 then takeOf n c.listed s else match sideOf s n with | none => (s, [-8]) | some t => (s, askedOf t c)).1 → H' p = some (.lst ((if c.deed = 0 then loadOf n (txt c.listed) s else if c.deed = 1 then takeOf n c.listed s else match sideOf s n with | none => (s, [-8]) | some t => (s, askedOf t c)).2.map V.int)) → Q (.ref p) H' at k
  have e13 := e12.trans e3
  refine Evl.q_when (test 0 _ _ H3 e13) (fun hc0 H4 e4 => ?_) fun hc0 H4 e4 => ?_
  · rw [decide_eq_true_eq] at hc0
    rw [if_pos hc0] at k
    have hby := hok.by0 hc0
    have htx : nV (txt c.listed) = c.listed.map V.int := by
      unfold nV nI txt
      rw [List.map_map, List.map_map]
      exact List.map_congr_left fun x hx => congrArg V.int (Int.toNat_of_nonneg (hby.2 x hx).1)
    have e14 := e13.trans e4
    refine dk_call (n, txt c.listed) (ea_cons (ev_var rfl) (ea_cons (ev_var rfl) (ea_cons (ev_listed T (ev_var rfl) (e14 _ _ hq)) ea_nil))) (hdk.ex e14) (fun H5 e5 => ⟨_, _, rfl, rfl, hn, by show (txt c.listed).length ≤ 2000; unfold txt; rw [List.length_map]; omega, b, rfl, by rw [htx]; exact SqL.of ((e14.trans e5) _ _ hb)⟩) fun p H' n c d q => k p H' (Evl.fresh_back e14 n) (c.ex_left e14) d q
  rw [decide_eq_false_iff_not] at hc0
  rw [if_neg hc0] at k
  have e14 := e13.trans e4
  refine Evl.q_when (test 1 _ _ H4 e14) (fun hc1 H5 e5 => ?_) fun hc1 H5 e5 => ?_
  · rw [decide_eq_true_eq] at hc1
    rw [if_pos hc1] at k
    have e15 := e14.trans e5
    refine dk_call (n, c.listed) (ea_cons (ev_var rfl) (ea_cons (ev_var rfl) (ea_cons (ev_listed T (ev_var rfl) (e15 _ _ hq)) ea_nil))) (hdk.ex e15) (fun H6 e6 => ⟨_, _, rfl, rfl, hn, hok.sz hc0, b, rfl, SqL.of ((e15.trans e6) _ _ hb)⟩) fun p H' n c d q => k p H' (Evl.fresh_back e15 n) (c.ex_left e15) d q
  rw [decide_eq_false_iff_not] at hc1
  rw [if_neg hc1] at k
  have e15 := e14.trans e5
  have hdk5 := hdk.ex e15
  obtain ⟨⟨dxk, hins⟩, ⟨x, y, hsl, hx, hy⟩, _⟩ := id hdk5
  refine Evl.q_asg (ev_tb (k := n) (ev_var rfl) (ev_var rfl) hn hins hsl) fun H6 e6 => ?_
  have hside : isSd K ad H0 (sideOf s n) (if n = 0 then x else y) H6 := by
    unfold sideOf
    split
    · exact hx.ex e6
    · exact hy.ex e6
  generalize (if n = 0 then x else y) = tv at hside ⊢
  have e16 := e15.trans e6
  cases hsd : sideOf s n with
  | none =>
    rw [hsd] at hside k
    change tv = .non at hside
    subst hside
    refine Evl.q_when (Evl.et_test (ev_isN (ev_var rfl) (b := true) rfl)) (fun _ H7 e7 => ?_) fun q => by cases q
    exact Evl.s_retL (evl_neg1 8) fun p H8 np e8 hp => k p H8 (Evl.fresh_back (e16.trans e7) np) (.inl ((e16.trans e7).trans e8)) (hdk.ex ((e16.trans e7).trans e8)) hp
  | some t =>
    rw [hsd] at hside k
    obtain ⟨ht, hw⟩ := hside
    have hnn : decide (tv = V.non) = false := by
      obtain ⟨a, _, _, _, _, rfl, _⟩ := ht
      rfl
    refine Evl.q_when (Evl.et_test (ev_isN (ev_var rfl) hnn)) (fun q => by cases q) fun _ H7 e7 => ?_
    have e17 := e16.trans e7
    have hdp := hok.dp
    exact Evl.s_retL (evl_callL (t, c, Hc) (ea_cons (ev_var rfl) (ea_cons (ev_var rfl) ea_nil)) fun H8 e8 => ⟨_, _, rfl, (ht.ex (e7.trans e8)).tab, hw, hok, by show 2 ≤ c.deed; omega, by show c.deed ≤ 9; omega, hca.ex (e17.trans e8)⟩) fun p H8 np e8 hp => k p H8 (Evl.fresh_back e17 np) (.inl (e17.trans e8)) (hdk.ex (e17.trans e8)) hp
theorem q_desk {D : Ends} {tz : L2.TS} {σ : L2.St} {H : Hp} {i : Nat} (k : ∀ (dk sl dx : Addr) (H1 : Hp), H dk = none → H sl = none → Ex H H1 → H1 dk = some (.ins ad.Desk dx (dskF (.ref sl))) → H1 sl = some (.lst [.non, .non]) → tz D (σ.set i (some (.ref dk))) H1) : tSeq (tAsg (tMake ad.Desk (spDi ad) [] E0 tNil) (gName i)) tz D σ H := by
  intro x dx hx hdx hne
  have e0 : Ex H (upd (upd H dx (.own x)) x (.ins ad.Desk dx [])) := Ex.mut (Ex.new hdx) hx
  refine ⟨x, dx, rfl, upd_same, fun sl H1 ns e1 hs => ⟨rfl, ?_⟩⟩
  have hslx : sl ≠ x := fun z => by rw [z, upd_same] at ns; cases ns
  exact k x sl dx _ hx (Evl.fresh_back e0 ns) (Ex.mut (e0.trans e1) hx) upd_same (by rw [upd_ne hslx]; exact hs)
theorem Chg.exH {sl : Addr} {H H' H2 : Hp} (h : Chg sl H' H2) (e : Ex H H') (n : H sl = none) : Ex H H2 := by
  rcases h with e2 | ⟨H1, zs, e1, e2⟩
  · exact e.trans e2
  · exact (Ex.mut (e.trans e1) n).trans e2
theorem evp_lstV {te : TE} {σ : L2.St} {H : Hp} {p : Addr} {zs : List V} (h : Ev te σ H (.ref p)) (hp : H p = some (.lst zs)) : EvP te σ H (fun v H2 => ∃ b, v = .ref b ∧ H2 b = some (.lst zs)) := fun H1 e Q q => h H1 e Q fun H2 e2 => q _ H2 e2 ⟨p, rfl, (e.trans e2) _ _ hp⟩
theorem Fn.mk2 {sp : Sp} {x : Str} {st : Stmt} {N ps : List Str} {k : Nat} (S : FnScope N ps (defScope st)) (len : ∀ vs H Q E, sp vs H Q E → vs.length = ps.length)
    (body : ∀ (cdv : Value) (f : Addr) (A : Around) (outer : List Env) (s : Shared) (H : Hp) (E : XK), Room k (A.deeper (envOfC x (defScope st) s.heap.objs.size f cdv)) →
      ∃ t, PSs (cxOf CX0 P w K mg base N x (defScope st) f cdv A outer s H E).nox (defBody st) t ∧ ∀ vs Q, sp vs H Q E → t { nx := fun _ H' => Q .non H', rt := Q } (start N vs) H) : ∀ (f : Addr) (fd : FuncData), Fun K x x st f fd → FnOk P w K mg base CX0 (k + 1) f fd ps sp := fun f fd F =>
  F.ok S len fun cdv A outer s H vs Q E hr h => by
    obtain ⟨t, h1, h2⟩ := body cdv f A outer s H E hr
    exact ⟨t, h1, h2 vs Q h⟩
theorem ok_answers (T : Tops K mg ad) : ∀ (f : Addr) (fd : FuncData), Fun K "answers" "answers" s_answers f fd → FnOk P w K mg base CX0 10 f fd ["calls"] (spL (A1 fun (x : List Int × List CallR) v H => isL K x.1 v H ∧ x.1 = x.2.flatMap putC ∧ (∀ c ∈ x.2, okC c) ∧ x.2.length ≤ 60) fun x => (PyFlat.told (playL Vatdfa.start x.2)).map V.int) := by
  refine Fn.mk2 sc_answers lN1 fun cdv f A outer s H E hr => ⟨_, (pss_cons (ps_set (i := 1) sc_answers.nd rfl (Or.inl rfl) (pe_new0 (in_Desk T) (hr.mono (by decide))))
      (pss_cons (ps_set (i := 2) sc_answers.nd rfl (Or.inl rfl) (pe_lst pa_nil))
      (pss_cons (ps_for PassesOwn.never rfl (pi_list (pe_fn (fn_cut T) (hr.mono (by decide)) (pa_cons (pv 0) pa_nil))) (pg_name (i := 3) sc_answers.nd rfl (Or.inl rfl)) (pss_cons (ps_set (i := 4) sc_answers.nd rfl (Or.inl rfl) (pe_fn (fn_answer T) (hr.mono (by decide)) (pa_cons (pv 1) (pa_cons (pv 3) pa_nil))))
      (pss_cons (ps_expr (pe_bm PySem.F.plainAttrs_list PySem.F.slot_list_append PySem.F.type_list_append mt_append (pv 2) (pa_cons (pe_callB call_len_seq (by rfl) T.b_len PySem.boot_len (pa_cons (pv 4) pa_nil)) pa_nil)))
      (pss_one (ps_expr (pe_bm PySem.F.plainAttrs_list PySem.F.slot_list_extend PySem.F.type_list_extend mt_extend (pv 2) (pa_cons (pv 4) pa_nil)))))))
      (pss_one (ps_ret (pv 2)))))), ?_⟩
  rintro vs Q ⟨⟨l, cs⟩, ⟨v, rfl, hl, hlc, hok, hz⟩, k⟩
  change isL K l v H at hl
  change l = cs.flatMap putC at hlc
  change ∀ c ∈ cs, okC c at hok
  change cs.length ≤ 60 at hz
  change ∀ p H', H p = none → Ex H H' → H' p = some (.lst ((PyFlat.told (playL Vatdfa.start cs)).map V.int)) → Q (.ref p) H' at k
  refine q_desk fun dk sl dx H1 ndk nsl e1 hdk hsl => ?_
  refine Evl.q_asgL (Evl.el_lst ea_nil (Nat.zero_le _)) fun p H2 np e2 hp => ?_
  have e12 := e1.trans e2
  have hsl2 := e2 _ _ hsl
  have hpsl : p ≠ sl := (ne_of_none hsl np).symm
  have np0 := Evl.fresh_back e1 np
  have dk0 : isDk K ad H2 H2 dk sl Vatdfa.start := ⟨⟨dx, e2 _ _ hdk⟩, ⟨.non, .non, hsl2, rfl, rfl⟩, ⟨_, hsl2⟩, fun _ h => h⟩
  refine q_for_srcF (evf_callN (l, cs, H2) (ea_cons (ev_var rfl) ea_nil) fun H3 e3 => ⟨_, rfl, hl.ex (e12.trans e3), hlc, hok, by show cs.length ≤ 1000; omega, Dm.of e3⟩) ?_
  rintro q H3 nq e3 ⟨ys, hq, hpa⟩
  change Paired (isCa K ad H2 H3) ys cs at hpa
  have hqp : q ≠ p := (ne_of_none hp nq).symm
  have hqsl : q ≠ sl := (ne_of_none hsl2 nq).symm
  have hyl : ys.length = cs.length := Paired.length hpa
  refine Evl.q_forLn (ev_c (v := .ref q)) (SqL.of hq)
    (fun i σ' H' => (Ex H H' ∧ H' q = some (.lst ys) ∧ Paired (isCa K ad H2 H') ys cs) ∧ (∃ s done, isDk K ad H2 H' dk sl s ∧ playL Vatdfa.start cs = done ++ playL s (cs.drop i) ∧ H' p = some (.lst ((PyFlat.told done).map V.int)) ∧ (PyFlat.told done).length ≤ i * 2551) ∧ ∃ x y, σ' = [some v, some (.ref dk), some (.ref p), x, y])
    (fun H4 e4 => ⟨⟨(e12.trans e3).trans e4, e4 _ _ hq, paired_mono hpa fun _ _ h => h.ex e4⟩, ⟨Vatdfa.start, [], dk0.ex (e3.trans e4), rfl, (e3.trans e4) _ _ hp, Nat.le_refl _⟩, none, none, rfl⟩) (fun i σ' H' _ hh => SqL.of hh.1.2.1) ?_ ?_
  · rintro i x σ' H' hx ⟨⟨e, hq', hpa'⟩, ⟨s, done, hd, hpl, hp', hdl⟩, y, y2, rfl⟩
    obtain ⟨c, hc, hca⟩ := paired_at hpa' hx
    have hi60 : i < 60 := by
      have := (List.getElem?_eq_some_iff.mp hx).1
      omega
    have hdr : cs.drop i = c :: cs.drop (i + 1) := by
      obtain ⟨hil, hce⟩ := List.getElem?_eq_some_iff.mp hc
      rw [List.drop_eq_getElem_cons hil, hce]
    rw [hdr] at hpl
    change playL Vatdfa.start cs = done ++ ((answerOf c s).2 :: playL (answerOf c s).1 (cs.drop (i + 1))) at hpl
    have hal := answerOf_len hd.wf.1 hd.wf.2 c
    have hmul : i * 2551 ≤ 60 * 2551 := Nat.mul_le_mul (by omega) (Nat.le_refl _)
    obtain ⟨⟨_, _⟩, ⟨sx, sy, hsl', _⟩, _⟩ := id hd
    refine dk_call (c, H2) (ea_cons (ev_var rfl) (ea_cons (ev_var rfl) ea_nil)) hd (fun H5 e5 => ⟨_, rfl, hok c (List.mem_of_getElem? hc), hca.ex e5⟩) fun p2 H5 n2 hchg hd5 hp2 => ?_
    change isDk K ad H2 H5 dk sl (answerOf c s).1 at hd5
    change H5 p2 = some (.lst ((answerOf c s).2.map V.int)) at hp2
    have hp5 : H5 p = some (.lst ((PyFlat.told done).map V.int)) := hchg.keep (P := fun A => A p = _) hsl' (fun A B e h => e _ _ h) (fun A zs _ h => by rw [upd_ne hpsl]; exact h) hp'
    have hq5 : H5 q = some (.lst ys) := hchg.keep (P := fun A => A q = _) hsl' (fun A B e h => e _ _ h) (fun A zs _ h => by rw [upd_ne hqsl]; exact h) hq'
    have hpa5 : Paired (isCa K ad H2 H5) ys cs := hchg.keep (P := fun A => Paired (isCa K ad H2 A) ys cs) hsl' (fun A B e h => paired_mono h fun _ _ z => z.ex e) (fun A zs hA h => paired_mono h fun _ _ z => z.upd hA hsl2) hpa'
    have e5 := hchg.exH e nsl
    have hp2p : p2 ≠ p := (ne_of_none hp' n2).symm
    refine q_appP hp5 (ev_var rfl) (evp_of (ev_int (ev_lenL (ev_var rfl) (SqL.of hp2)) (show _ = ((answerOf c s).2.length : Int) by rw [List.length_map]))) ?_ fun lv H6 e6 hlv => ?_
    · rw [List.length_map]
      exact Nat.lt_of_le_of_lt hdl (Nat.lt_of_le_of_lt hmul (by decide))
    subst hlv
    have hp6 := e6 _ _ hp5
    refine s_ext (xs := (PyFlat.told done).map V.int ++ [.int ((answerOf c s).2.length : Int)]) upd_same (ev_var rfl) (evp_lstV (ev_var rfl) (by rw [upd_ne hp2p]; exact e6 _ _ hp2)) ?_ fun H7 e7 => ?_
    · rw [List.length_append, List.length_map, List.length_map, List.length_singleton]
      exact Nat.le_trans (show _ ≤ 200000 by omega) (by decide)
    have hp7 := e7 _ _ (upd_same (H := H6) (a := p) (o := .lst ((PyFlat.told done).map V.int ++ [.int ((answerOf c s).2.length : Int)])))
    refine ⟨⟨Ex.mut ((Ex.mut (e5.trans e6) np0).trans e7) np0, by rw [upd_ne hqp]; exact e7 _ _ (by rw [upd_ne hqp]; exact e6 _ _ hq5), paired_mono hpa5 fun _ _ z => ((((z.ex e6).upd hp6 hp).ex e7).upd hp7 hp)⟩, ⟨(answerOf c s).1, done ++ [(answerOf c s).2], (((hd5.ex e6).upd hp6 hp hpsl).ex e7).upd hp7 hp hpsl, ?_, ?_, ?_⟩, _, _, rfl⟩
    · rw [hpl, List.append_assoc]
      rfl
    · rw [upd_same, told_app, List.map_append, List.append_assoc]
      simp [PyFlat.told]
    · rw [told_app, List.length_append]
      have : (PyFlat.told [(answerOf c s).2]).length = (answerOf c s).2.length + 1 := by
        unfold PyFlat.told
        simp
      omega
  · rintro σ' H' ⟨⟨e, _, _⟩, ⟨s, done, hd, hpl, hp', hdl⟩, y, y2, rfl⟩
    rw [hyl, List.drop_length] at hpl
    change playL Vatdfa.start cs = done ++ [] at hpl
    rw [List.append_nil] at hpl
    rw [← hpl] at hp'
    exact Evl.s_ret (ev_var rfl) fun H4 e4 => k p H4 np0 (e.trans e4) (e4 _ _ hp')
end
end Tx
end

section
set_option Elab.async false
set_option linter.all false
set_option maxRecDepth 100000
set_option maxHeartbeats 4000000
set_option exponentiation.threshold 100000
namespace Tx
open PySem PySem.Spec PyProof.Rows L2
open Evl (Ex Ev EvL EvU EvT EvA EvO RV ev_c ev_var ea_nil ea_cons eo_none eo_some)
open VatdfBase (Cell Table)
/-! ### the plain law: what is asked is calls, and what is due is what they answer -/
def rawC (c : List (List Int)) : CallR := match c with
  | (p :: a) :: xs => ⟨p.toNat, a, xs.headD []⟩
  | _ => ⟨0, [], []⟩
theorem len3 {a : List Int} (h : a.length = 3) : ∃ x y z, a = [x, y, z] := by
  match a, h with
  | [x, y, z], _ => exact ⟨x, y, z, rfl⟩
theorem len2 {a : List Int} (h : a.length = 2) : ∃ x y, a = [x, y] := by
  match a, h with
  | [x, y], _ => exact ⟨x, y, rfl⟩
theorem raw_ok {c : List (List Int)} (h : PyFlat.okCall PyVatdfa.shape c) (ha : VatdfaNeutral.asked1 (PyVatdfa.whole c) = true) :
    okC (rawC c) ∧ PyFlat.put1 c = putC (rawC c) ∧ VatdfaNeutral.callOf (PyVatdfa.whole c) = some (kOf (rawC c)) := by
  obtain ⟨p, a, xs, rfl, hs⟩ := h
  unfold PyVatdfa.shape at hs
  by_cases h0 : p = 0
  · subst h0
    rw [if_pos rfl] at hs
    have h1 := congrArg (fun z => z.map (·.1)) hs
    have h2 := congrArg (fun z => z.map (·.2)) hs
    obtain ⟨x0, rfl⟩ : ∃ x, a = [x] := List.length_eq_one_iff.mp (Option.some.inj h1).symm
    obtain ⟨r0, rfl⟩ : ∃ x, xs = [x] := List.length_eq_one_iff.mp (Option.some.inj h2).symm
    have ha' : (VatdfaNeutral.whole60 x0 && (r0.all (fun (z : Int) => VatdfaNeutral.natural z 8) && decide (r0.length ≤ 1100))) = true := ha
    rw [Bool.and_eq_true, Bool.and_eq_true, decide_eq_true_eq, List.all_eq_true] at ha'
    have hb : ∀ z ∈ r0, 0 ≤ z ∧ z ≤ 255 := by
      intro z hz
      have := ha'.2.1 z hz
      unfold VatdfaNeutral.natural at this
      rw [Bool.and_eq_true, decide_eq_true_eq, decide_eq_true_eq] at this
      omega
    refine ⟨⟨Nat.le_of_ble_eq_true rfl, rfl, (fun q => by cases q), fun q => absurd rfl q, fun _ => ⟨ha'.2.2, hb⟩⟩, ?_, ?_⟩
    · simp [PyFlat.put1, PyFlat.putRows, PyFlat.putRow, putC, rawC, listsB, counts]
    · show (if NeutralIO.bytes r0 = true then some (Vatdfa.Call.load x0 (r0.map Int.toNat)) else none) = _
      rw [if_pos]
      · rfl
      · unfold NeutralIO.bytes
        rw [List.all_eq_true]
        intro z hz
        rw [Bool.and_eq_true, decide_eq_true_eq, decide_eq_true_eq]
        exact hb z hz
  rw [if_neg h0] at hs
  by_cases h1 : p = 1
  · subst h1
    rw [if_pos rfl] at hs
    have h1 := congrArg (fun z => z.map (·.1)) hs
    have h2 := congrArg (fun z => z.map (·.2)) hs
    obtain ⟨x0, rfl⟩ : ∃ x, a = [x] := List.length_eq_one_iff.mp (Option.some.inj h1).symm
    obtain ⟨r0, rfl⟩ : ∃ x, xs = [x] := List.length_eq_one_iff.mp (Option.some.inj h2).symm
    have ha' : (VatdfaNeutral.whole60 x0 && VatdfaNeutral.listOk r0 700) = true := ha
    unfold VatdfaNeutral.listOk at ha'
    rw [Bool.and_eq_true, Bool.and_eq_true, decide_eq_true_eq] at ha'
    refine ⟨⟨Nat.le_of_ble_eq_true rfl, rfl, (fun q => by cases q), (fun _ => by show r0.length ≤ 1000; omega), (fun q => by cases q)⟩, ?_, rfl⟩
    simp [PyFlat.put1, PyFlat.putRows, PyFlat.putRow, putC, rawC, listsB, counts]
  rw [if_neg h1] at hs
  by_cases h2 : p = 2
  · subst h2
    rw [if_pos rfl] at hs
    have h1 := congrArg (fun z => z.map (·.1)) hs
    have h2 := congrArg (fun z => z.map (·.2)) hs
    obtain ⟨x0, rfl⟩ : ∃ x, a = [x] := List.length_eq_one_iff.mp (Option.some.inj h1).symm
    obtain rfl : xs = [] := List.length_eq_zero_iff.mp (Option.some.inj h2).symm
    exact ⟨⟨Nat.le_of_ble_eq_true rfl, rfl, fun _ => rfl, fun _ => Nat.zero_le _, (fun q => by cases q)⟩, by simp [PyFlat.put1, PyFlat.putRows, putC, rawC, listsB], rfl⟩
  rw [if_neg h2] at hs
  by_cases h3 : p = 3
  · subst h3
    rw [if_pos rfl] at hs
    have h1 := congrArg (fun z => z.map (·.1)) hs
    have h2 := congrArg (fun z => z.map (·.2)) hs
    obtain ⟨x0, rfl⟩ : ∃ x, a = [x] := List.length_eq_one_iff.mp (Option.some.inj h1).symm
    obtain rfl : xs = [] := List.length_eq_zero_iff.mp (Option.some.inj h2).symm
    exact ⟨⟨Nat.le_of_ble_eq_true rfl, rfl, fun _ => rfl, fun _ => Nat.zero_le _, (fun q => by cases q)⟩, by simp [PyFlat.put1, PyFlat.putRows, putC, rawC, listsB], rfl⟩
  rw [if_neg h3] at hs
  by_cases h4 : p = 4
  · subst h4
    rw [if_pos rfl] at hs
    have h1 := congrArg (fun z => z.map (·.1)) hs
    have h2 := congrArg (fun z => z.map (·.2)) hs
    obtain ⟨x0, x1, x2, rfl⟩ : ∃ x y z, a = [x, y, z] := len3 (Option.some.inj h1).symm
    obtain rfl : xs = [] := List.length_eq_zero_iff.mp (Option.some.inj h2).symm
    exact ⟨⟨Nat.le_of_ble_eq_true rfl, rfl, fun _ => rfl, fun _ => Nat.zero_le _, (fun q => by cases q)⟩, by simp [PyFlat.put1, PyFlat.putRows, putC, rawC, listsB], rfl⟩
  rw [if_neg h4] at hs
  by_cases h5 : p = 5
  · subst h5
    rw [if_pos rfl] at hs
    have h1 := congrArg (fun z => z.map (·.1)) hs
    have h2 := congrArg (fun z => z.map (·.2)) hs
    obtain ⟨x0, x1, rfl⟩ : ∃ x y, a = [x, y] := len2 (Option.some.inj h1).symm
    obtain rfl : xs = [] := List.length_eq_zero_iff.mp (Option.some.inj h2).symm
    exact ⟨⟨Nat.le_of_ble_eq_true rfl, rfl, fun _ => rfl, fun _ => Nat.zero_le _, (fun q => by cases q)⟩, by simp [PyFlat.put1, PyFlat.putRows, putC, rawC, listsB], rfl⟩
  rw [if_neg h5] at hs
  by_cases h6 : p = 6
  · subst h6
    rw [if_pos rfl] at hs
    have h1 := congrArg (fun z => z.map (·.1)) hs
    have h2 := congrArg (fun z => z.map (·.2)) hs
    obtain ⟨x0, rfl⟩ : ∃ x, a = [x] := List.length_eq_one_iff.mp (Option.some.inj h1).symm
    obtain ⟨r0, rfl⟩ : ∃ x, xs = [x] := List.length_eq_one_iff.mp (Option.some.inj h2).symm
    have ha' : (VatdfaNeutral.whole60 x0 && VatdfaNeutral.listOk r0 12) = true := ha
    unfold VatdfaNeutral.listOk at ha'
    rw [Bool.and_eq_true, Bool.and_eq_true, decide_eq_true_eq] at ha'
    refine ⟨⟨Nat.le_of_ble_eq_true rfl, rfl, (fun q => by cases q), (fun _ => by show r0.length ≤ 1000; omega), (fun q => by cases q)⟩, ?_, rfl⟩
    simp [PyFlat.put1, PyFlat.putRows, PyFlat.putRow, putC, rawC, listsB, counts]
  rw [if_neg h6] at hs
  by_cases h7 : p = 7
  · subst h7
    rw [if_pos rfl] at hs
    have h1 := congrArg (fun z => z.map (·.1)) hs
    have h2 := congrArg (fun z => z.map (·.2)) hs
    obtain ⟨x0, rfl⟩ : ∃ x, a = [x] := List.length_eq_one_iff.mp (Option.some.inj h1).symm
    obtain ⟨r0, rfl⟩ : ∃ x, xs = [x] := List.length_eq_one_iff.mp (Option.some.inj h2).symm
    have ha' : (VatdfaNeutral.whole60 x0 && VatdfaNeutral.listOk r0 10) = true := ha
    unfold VatdfaNeutral.listOk at ha'
    rw [Bool.and_eq_true, Bool.and_eq_true, decide_eq_true_eq] at ha'
    refine ⟨⟨Nat.le_of_ble_eq_true rfl, rfl, (fun q => by cases q), (fun _ => by show r0.length ≤ 1000; omega), (fun q => by cases q)⟩, ?_, rfl⟩
    simp [PyFlat.put1, PyFlat.putRows, PyFlat.putRow, putC, rawC, listsB, counts]
  rw [if_neg h7] at hs
  by_cases h8 : p = 8
  · subst h8
    rw [if_pos rfl] at hs
    have h1 := congrArg (fun z => z.map (·.1)) hs
    have h2 := congrArg (fun z => z.map (·.2)) hs
    obtain ⟨x0, rfl⟩ : ∃ x, a = [x] := List.length_eq_one_iff.mp (Option.some.inj h1).symm
    obtain rfl : xs = [] := List.length_eq_zero_iff.mp (Option.some.inj h2).symm
    exact ⟨⟨Nat.le_of_ble_eq_true rfl, rfl, fun _ => rfl, fun _ => Nat.zero_le _, (fun q => by cases q)⟩, by simp [PyFlat.put1, PyFlat.putRows, putC, rawC, listsB], rfl⟩
  rw [if_neg h8] at hs
  by_cases h9 : p = 9
  · subst h9
    rw [if_pos rfl] at hs
    have h1 := congrArg (fun z => z.map (·.1)) hs
    have h2 := congrArg (fun z => z.map (·.2)) hs
    obtain ⟨x0, rfl⟩ : ∃ x, a = [x] := List.length_eq_one_iff.mp (Option.some.inj h1).symm
    obtain ⟨r0, rfl⟩ : ∃ x, xs = [x] := List.length_eq_one_iff.mp (Option.some.inj h2).symm
    have ha' : (VatdfaNeutral.whole60 x0 && VatdfaNeutral.listOk r0 10) = true := ha
    unfold VatdfaNeutral.listOk at ha'
    rw [Bool.and_eq_true, Bool.and_eq_true, decide_eq_true_eq] at ha'
    refine ⟨⟨Nat.le_of_ble_eq_true rfl, rfl, (fun q => by cases q), (fun _ => by show r0.length ≤ 1000; omega), (fun q => by cases q)⟩, ?_, rfl⟩
    simp [PyFlat.put1, PyFlat.putRows, PyFlat.putRow, putC, rawC, listsB, counts]
  rw [if_neg h9] at hs
  by_cases h10 : p = 10
  · subst h10
    rw [if_pos rfl] at hs
    have h1 := congrArg (fun z => z.map (·.1)) hs
    have h2 := congrArg (fun z => z.map (·.2)) hs
    obtain rfl : a = [] := List.length_eq_zero_iff.mp (Option.some.inj h1).symm
    obtain rfl : xs = [] := List.length_eq_zero_iff.mp (Option.some.inj h2).symm
    exact ⟨⟨Nat.le_of_ble_eq_true rfl, rfl, fun _ => rfl, fun _ => Nat.zero_le _, (fun q => by cases q)⟩, by simp [PyFlat.put1, PyFlat.putRows, putC, rawC, listsB], rfl⟩
  rw [if_neg h10] at hs
  cases hs
theorem played_is : ∀ (raw : List (List (List Int))) (s : Vatdfa.State), (∀ c ∈ raw, okC (rawC c) ∧ VatdfaNeutral.callOf (PyVatdfa.whole c) = some (kOf (rawC c))) →
    PyFlat.played VatdfaNeutral.step s (raw.map PyVatdfa.whole) = playL s (raw.map rawC)
  | [], _, _ => rfl
  | c :: r, s, h => by
    have hc := h c List.mem_cons_self
    have e : VatdfaNeutral.step s (PyVatdfa.whole c) = answerOf (rawC c) s := by
      unfold VatdfaNeutral.step
      rw [hc.2]
      show ((Vatdfa.step s (kOf (rawC c))).1, (Vatdfa.step s (kOf (rawC c))).2) = _
      rw [step_is hc.1.dp]
    rw [List.map_cons, List.map_cons]
    show (VatdfaNeutral.step s (PyVatdfa.whole c)).2 :: PyFlat.played VatdfaNeutral.step (VatdfaNeutral.step s (PyVatdfa.whole c)).1 (r.map PyVatdfa.whole) = (answerOf (rawC c) s).2 :: playL (answerOf (rawC c) s).1 (r.map rawC)
    rw [e, played_is r _ fun x hx => h x (List.mem_cons_of_mem _ hx)]
theorem put_is : ∀ (raw : List (List (List Int))), (∀ c ∈ raw, PyFlat.put1 c = putC (rawC c)) → PyFlat.put raw = (raw.map rawC).flatMap putC
  | [], _ => rfl
  | c :: r, h => by
    rw [List.map_cons, List.flatMap_cons, ← h c List.mem_cons_self, ← put_is r fun x hx => h x (List.mem_cons_of_mem _ hx)]
    rfl
/-- THE PLAIN LAW -/
theorem plain_law {l : List Int} (h : PyVatdfa.answers_asked l = true) : ∃ cs : List CallR, l = cs.flatMap putC ∧ (∀ c ∈ cs, okC c) ∧ cs.length ≤ 60 ∧ PyVatdfa.answers l = PyFlat.told (playL Vatdfa.start cs) := by
  unfold PyVatdfa.answers_asked at h
  cases hr : PyFlat.calls PyVatdfa.shape l.length l with
  | none => rw [hr] at h; cases h
  | some raw =>
    rw [hr] at h
    have h' : (!raw.isEmpty && PyFlat.atMost 60 raw && PyInside.calls PyVatdfa.bound raw && VatdfaNeutral.asked (raw.map PyVatdfa.whole) && PyFlat.short 10000000 (PyVatdfa.answers l)) = true := h
    rw [Bool.and_eq_true, Bool.and_eq_true, Bool.and_eq_true, Bool.and_eq_true] at h'
    obtain ⟨⟨⟨⟨_, h60⟩, _⟩, has⟩, _⟩ := h'
    unfold PyFlat.atMost at h60
    rw [decide_eq_true_eq] at h60
    unfold VatdfaNeutral.asked at has
    rw [Bool.and_eq_true, List.all_eq_true] at has
    obtain ⟨hput, hoks⟩ := PyFlat.put_calls _ _ _ hr
    have hall : ∀ c ∈ raw, okC (rawC c) ∧ PyFlat.put1 c = putC (rawC c) ∧ VatdfaNeutral.callOf (PyVatdfa.whole c) = some (kOf (rawC c)) := fun c hc => raw_ok (hoks c hc) (has.1 _ (List.mem_map.mpr ⟨c, hc, rfl⟩))
    refine ⟨raw.map rawC, ?_, ?_, by rw [List.length_map]; exact h60, ?_⟩
    · rw [← put_is raw fun c hc => (hall c hc).2.1]
      exact hput
    · intro c hc
      obtain ⟨d, hd, rfl⟩ := List.mem_map.mp hc
      exact (hall d hd).1
    · have e : PyVatdfa.calls l = some (raw.map PyVatdfa.whole) := by
        unfold PyVatdfa.calls
        rw [hr]
      unfold PyVatdfa.answers
      rw [e]
      show PyFlat.told (PyFlat.played VatdfaNeutral.step VatdfaNeutral.start (raw.map PyVatdfa.whole)) = _
      rw [played_is raw _ fun c hc => ⟨(hall c hc).1, (hall c hc).2.2⟩]
      rfl
end Tx
end

section
set_option Elab.async false
set_option linter.all false
set_option maxRecDepth 100000
set_option maxHeartbeats 4000000
set_option exponentiation.threshold 100000
namespace Tx
open PySem PySem.Spec PyProof.Rows L2
open Evl (Ex Ev EvL EvU EvT EvA EvO RV ev_c ev_var ea_nil ea_cons eo_none eo_some)
open VatdfBase (Cell Table)
theorem def_at {K : PySem.W.Frag} {h : Heap} {mg : Str → Option Value} {x : Str} {st : Stmt} {ps : List Str} {f : Addr} {od an : Option Addr} {sl : Array (Option Value)} {oc kV dc pm cd ct : Value} (X : K.In h) (G : h.Ns mainGlobals mg)
    (a : PySem.W.nsIn K mainGlobals x = some (some (.ref f))) (l : K.lookup f = some ⟨oc, od, .func (PySem.W.fnOf x x (defArgs st) (defBody st) (defScope st) .none kV dc pm an cd ct), sl⟩) (c : PySem.W.codeIn K cd x = true) (k : PySem.W.keepIn K (.ref f) = true)
    (b : ∀ (kV doc pm : Value) (an : Option Addr) (cdv ct : Value) (us : List Value), us.length = ps.length → bindArgs (PySem.W.fnOf x x (defArgs st) (defBody st) (defScope st) .none kV doc pm an cdv ct) ⟨us, []⟩ = pure (ps.zip us)) : DefAt K mg x st ps :=
  ⟨⟨f, _, fun_mk l c k, PySem.W.mg_of X G a, (fun_mk l c k).binds b⟩⟩
theorem int_at {K : PySem.W.Frag} {h : Heap} {mg : Str → Option Value} {x : Str} {i : Int} {u : Tok} (X : K.In h) (G : h.Ns mainGlobals mg) (a : PySem.W.nsIn K mainGlobals x = some (some (.int i u))) : ∃ u, mg x = some (.int i u) := ⟨u, PySem.W.mg_of X G a⟩
theorem tup_at {K : PySem.W.Frag} {h : Heap} {mg : Str → Option Value} {x : Str} {vs : List V} {p n : Nat} {od : Option Addr} {its : Array Value} {sl : Array (Option Value)} (X : K.In h) (G : h.Ns mainGlobals mg) (a : PySem.W.nsIn K mainGlobals x = some (some (.ref p)))
    (l : K.lookup p = some ⟨.type "tuple", od, .seq its n, sl⟩) (v : Vals vs its.toList) (s : vs.length ≤ 100) : ∃ p : Addr, mg x = some (.ref p) ∧ ∀ H, SqT K H p vs := by
  refine ⟨p, PySem.W.mg_of X G a, fun H => .inr ⟨_, its, n, l, rfl, rfl, ?_, v⟩⟩
  have := Vals.length v
  have e : its.toList.length = its.size := Array.length_toList
  exact Nat.le_trans (show its.size ≤ 100 by omega) (by decide)
theorem bd_heads_end (kV doc pm : Value) (an : Option Addr) (cdv ct : Value) (us : List Value) (hl : us.length = (["calls", "at"] : List Str).length) : bindArgs (PySem.W.fnOf "heads_end" "heads_end" (defArgs s_heads_end) (defBody s_heads_end) (defScope s_heads_end) .none kV doc pm an cdv ct) ⟨us, []⟩ = pure ((["calls", "at"] : List Str).zip us) := ((fun _ _ _ _ _ _ us hl => match us, hl with | [_, _], _ => rfl : ∀ (kV doc pm : Value) (an : Option Addr) (cdv ct : Value) (us : List Value), us.length = (["calls", "at"] : List Str).length → bindArgs (PySem.W.fnOf "heads_end" "heads_end" (defArgs s_heads_end) (defBody s_heads_end) (defScope s_heads_end) .none kV doc pm an cdv ct) ⟨us, []⟩ = pure ((["calls", "at"] : List Str).zip us))) kV doc pm an cdv ct us hl
theorem bd_call_end (kV doc pm : Value) (an : Option Addr) (cdv ct : Value) (us : List Value) (hl : us.length = (["calls", "at"] : List Str).length) : bindArgs (PySem.W.fnOf "call_end" "call_end" (defArgs s_call_end) (defBody s_call_end) (defScope s_call_end) .none kV doc pm an cdv ct) ⟨us, []⟩ = pure ((["calls", "at"] : List Str).zip us) := ((fun _ _ _ _ _ _ us hl => match us, hl with | [_, _], _ => rfl : ∀ (kV doc pm : Value) (an : Option Addr) (cdv ct : Value) (us : List Value), us.length = (["calls", "at"] : List Str).length → bindArgs (PySem.W.fnOf "call_end" "call_end" (defArgs s_call_end) (defBody s_call_end) (defScope s_call_end) .none kV doc pm an cdv ct) ⟨us, []⟩ = pure ((["calls", "at"] : List Str).zip us))) kV doc pm an cdv ct us hl
theorem bd_call_at (kV doc pm : Value) (an : Option Addr) (cdv ct : Value) (us : List Value) (hl : us.length = (["calls", "at"] : List Str).length) : bindArgs (PySem.W.fnOf "call_at" "call_at" (defArgs s_call_at) (defBody s_call_at) (defScope s_call_at) .none kV doc pm an cdv ct) ⟨us, []⟩ = pure ((["calls", "at"] : List Str).zip us) := ((fun _ _ _ _ _ _ us hl => match us, hl with | [_, _], _ => rfl : ∀ (kV doc pm : Value) (an : Option Addr) (cdv ct : Value) (us : List Value), us.length = (["calls", "at"] : List Str).length → bindArgs (PySem.W.fnOf "call_at" "call_at" (defArgs s_call_at) (defBody s_call_at) (defScope s_call_at) .none kV doc pm an cdv ct) ⟨us, []⟩ = pure ((["calls", "at"] : List Str).zip us))) kV doc pm an cdv ct us hl
theorem bd_cut (kV doc pm : Value) (an : Option Addr) (cdv ct : Value) (us : List Value) (hl : us.length = (["calls"] : List Str).length) : bindArgs (PySem.W.fnOf "cut" "cut" (defArgs s_cut) (defBody s_cut) (defScope s_cut) .none kV doc pm an cdv ct) ⟨us, []⟩ = pure ((["calls"] : List Str).zip us) := ((fun _ _ _ _ _ _ us hl => match us, hl with | [_], _ => rfl : ∀ (kV doc pm : Value) (an : Option Addr) (cdv ct : Value) (us : List Value), us.length = (["calls"] : List Str).length → bindArgs (PySem.W.fnOf "cut" "cut" (defArgs s_cut) (defBody s_cut) (defScope s_cut) .none kV doc pm an cdv ct) ⟨us, []⟩ = pure ((["calls"] : List Str).zip us))) kV doc pm an cdv ct us hl
theorem bd_is_digit (kV doc pm : Value) (an : Option Addr) (cdv ct : Value) (us : List Value) (hl : us.length = (["byte"] : List Str).length) : bindArgs (PySem.W.fnOf "is_digit" "is_digit" (defArgs s_is_digit) (defBody s_is_digit) (defScope s_is_digit) .none kV doc pm an cdv ct) ⟨us, []⟩ = pure ((["byte"] : List Str).zip us) := ((fun _ _ _ _ _ _ us hl => match us, hl with | [_], _ => rfl : ∀ (kV doc pm : Value) (an : Option Addr) (cdv ct : Value) (us : List Value), us.length = (["byte"] : List Str).length → bindArgs (PySem.W.fnOf "is_digit" "is_digit" (defArgs s_is_digit) (defBody s_is_digit) (defScope s_is_digit) .none kV doc pm an cdv ct) ⟨us, []⟩ = pure ((["byte"] : List Str).zip us))) kV doc pm an cdv ct us hl
theorem bd_is_small (kV doc pm : Value) (an : Option Addr) (cdv ct : Value) (us : List Value) (hl : us.length = (["byte"] : List Str).length) : bindArgs (PySem.W.fnOf "is_small" "is_small" (defArgs s_is_small) (defBody s_is_small) (defScope s_is_small) .none kV doc pm an cdv ct) ⟨us, []⟩ = pure ((["byte"] : List Str).zip us) := ((fun _ _ _ _ _ _ us hl => match us, hl with | [_], _ => rfl : ∀ (kV doc pm : Value) (an : Option Addr) (cdv ct : Value) (us : List Value), us.length = (["byte"] : List Str).length → bindArgs (PySem.W.fnOf "is_small" "is_small" (defArgs s_is_small) (defBody s_is_small) (defScope s_is_small) .none kV doc pm an cdv ct) ⟨us, []⟩ = pure ((["byte"] : List Str).zip us))) kV doc pm an cdv ct us hl
theorem bd_is_seen (kV doc pm : Value) (an : Option Addr) (cdv ct : Value) (us : List Value) (hl : us.length = (["byte"] : List Str).length) : bindArgs (PySem.W.fnOf "is_seen" "is_seen" (defArgs s_is_seen) (defBody s_is_seen) (defScope s_is_seen) .none kV doc pm an cdv ct) ⟨us, []⟩ = pure ((["byte"] : List Str).zip us) := ((fun _ _ _ _ _ _ us hl => match us, hl with | [_], _ => rfl : ∀ (kV doc pm : Value) (an : Option Addr) (cdv ct : Value) (us : List Value), us.length = (["byte"] : List Str).length → bindArgs (PySem.W.fnOf "is_seen" "is_seen" (defArgs s_is_seen) (defBody s_is_seen) (defScope s_is_seen) .none kV doc pm an cdv ct) ⟨us, []⟩ = pure ((["byte"] : List Str).zip us))) kV doc pm an cdv ct us hl
theorem bd_is_word (kV doc pm : Value) (an : Option Addr) (cdv ct : Value) (us : List Value) (hl : us.length = (["said"] : List Str).length) : bindArgs (PySem.W.fnOf "is_word" "is_word" (defArgs s_is_word) (defBody s_is_word) (defScope s_is_word) .none kV doc pm an cdv ct) ⟨us, []⟩ = pure ((["said"] : List Str).zip us) := ((fun _ _ _ _ _ _ us hl => match us, hl with | [_], _ => rfl : ∀ (kV doc pm : Value) (an : Option Addr) (cdv ct : Value) (us : List Value), us.length = (["said"] : List Str).length → bindArgs (PySem.W.fnOf "is_word" "is_word" (defArgs s_is_word) (defBody s_is_word) (defScope s_is_word) .none kV doc pm an cdv ct) ⟨us, []⟩ = pure ((["said"] : List Str).zip us))) kV doc pm an cdv ct us hl
theorem bd_is_name (kV doc pm : Value) (an : Option Addr) (cdv ct : Value) (us : List Value) (hl : us.length = (["said"] : List Str).length) : bindArgs (PySem.W.fnOf "is_name" "is_name" (defArgs s_is_name) (defBody s_is_name) (defScope s_is_name) .none kV doc pm an cdv ct) ⟨us, []⟩ = pure ((["said"] : List Str).zip us) := ((fun _ _ _ _ _ _ us hl => match us, hl with | [_], _ => rfl : ∀ (kV doc pm : Value) (an : Option Addr) (cdv ct : Value) (us : List Value), us.length = (["said"] : List Str).length → bindArgs (PySem.W.fnOf "is_name" "is_name" (defArgs s_is_name) (defBody s_is_name) (defScope s_is_name) .none kV doc pm an cdv ct) ⟨us, []⟩ = pure ((["said"] : List Str).zip us))) kV doc pm an cdv ct us hl
theorem bd_digits_from (kV doc pm : Value) (an : Option Addr) (cdv ct : Value) (us : List Value) (hl : us.length = (["said"] : List Str).length) : bindArgs (PySem.W.fnOf "digits_from" "digits_from" (defArgs s_digits_from) (defBody s_digits_from) (defScope s_digits_from) .none kV doc pm an cdv ct) ⟨us, []⟩ = pure ((["said"] : List Str).zip us) := ((fun _ _ _ _ _ _ us hl => match us, hl with | [_], _ => rfl : ∀ (kV doc pm : Value) (an : Option Addr) (cdv ct : Value) (us : List Value), us.length = (["said"] : List Str).length → bindArgs (PySem.W.fnOf "digits_from" "digits_from" (defArgs s_digits_from) (defBody s_digits_from) (defScope s_digits_from) .none kV doc pm an cdv ct) ⟨us, []⟩ = pure ((["said"] : List Str).zip us))) kV doc pm an cdv ct us hl
theorem bd_is_number_text (kV doc pm : Value) (an : Option Addr) (cdv ct : Value) (us : List Value) (hl : us.length = (["said"] : List Str).length) : bindArgs (PySem.W.fnOf "is_number_text" "is_number_text" (defArgs s_is_number_text) (defBody s_is_number_text) (defScope s_is_number_text) .none kV doc pm an cdv ct) ⟨us, []⟩ = pure ((["said"] : List Str).zip us) := ((fun _ _ _ _ _ _ us hl => match us, hl with | [_], _ => rfl : ∀ (kV doc pm : Value) (an : Option Addr) (cdv ct : Value) (us : List Value), us.length = (["said"] : List Str).length → bindArgs (PySem.W.fnOf "is_number_text" "is_number_text" (defArgs s_is_number_text) (defBody s_is_number_text) (defScope s_is_number_text) .none kV doc pm an cdv ct) ⟨us, []⟩ = pure ((["said"] : List Str).zip us))) kV doc pm an cdv ct us hl
theorem bd_number_of (kV doc pm : Value) (an : Option Addr) (cdv ct : Value) (us : List Value) (hl : us.length = (["said"] : List Str).length) : bindArgs (PySem.W.fnOf "number_of" "number_of" (defArgs s_number_of) (defBody s_number_of) (defScope s_number_of) .none kV doc pm an cdv ct) ⟨us, []⟩ = pure ((["said"] : List Str).zip us) := ((fun _ _ _ _ _ _ us hl => match us, hl with | [_], _ => rfl : ∀ (kV doc pm : Value) (an : Option Addr) (cdv ct : Value) (us : List Value), us.length = (["said"] : List Str).length → bindArgs (PySem.W.fnOf "number_of" "number_of" (defArgs s_number_of) (defBody s_number_of) (defScope s_number_of) .none kV doc pm an cdv ct) ⟨us, []⟩ = pure ((["said"] : List Str).zip us))) kV doc pm an cdv ct us hl
theorem bd_digits (kV doc pm : Value) (an : Option Addr) (cdv ct : Value) (us : List Value) (hl : us.length = (["number"] : List Str).length) : bindArgs (PySem.W.fnOf "digits" "digits" (defArgs s_digits) (defBody s_digits) (defScope s_digits) .none kV doc pm an cdv ct) ⟨us, []⟩ = pure ((["number"] : List Str).zip us) := ((fun _ _ _ _ _ _ us hl => match us, hl with | [_], _ => rfl : ∀ (kV doc pm : Value) (an : Option Addr) (cdv ct : Value) (us : List Value), us.length = (["number"] : List Str).length → bindArgs (PySem.W.fnOf "digits" "digits" (defArgs s_digits) (defBody s_digits) (defScope s_digits) .none kV doc pm an cdv ct) ⟨us, []⟩ = pure ((["number"] : List Str).zip us))) kV doc pm an cdv ct us hl
theorem bd_decimal (kV doc pm : Value) (an : Option Addr) (cdv ct : Value) (us : List Value) (hl : us.length = (["number"] : List Str).length) : bindArgs (PySem.W.fnOf "decimal" "decimal" (defArgs s_decimal) (defBody s_decimal) (defScope s_decimal) .none kV doc pm an cdv ct) ⟨us, []⟩ = pure ((["number"] : List Str).zip us) := ((fun _ _ _ _ _ _ us hl => match us, hl with | [_], _ => rfl : ∀ (kV doc pm : Value) (an : Option Addr) (cdv ct : Value) (us : List Value), us.length = (["number"] : List Str).length → bindArgs (PySem.W.fnOf "decimal" "decimal" (defArgs s_decimal) (defBody s_decimal) (defScope s_decimal) .none kV doc pm an cdv ct) ⟨us, []⟩ = pure ((["number"] : List Str).zip us))) kV doc pm an cdv ct us hl
theorem bd_number_cell (kV doc pm : Value) (an : Option Addr) (cdv ct : Value) (us : List Value) (hl : us.length = (["number"] : List Str).length) : bindArgs (PySem.W.fnOf "number_cell" "number_cell" (defArgs s_number_cell) (defBody s_number_cell) (defScope s_number_cell) .none kV doc pm an cdv ct) ⟨us, []⟩ = pure ((["number"] : List Str).zip us) := ((fun _ _ _ _ _ _ us hl => match us, hl with | [_], _ => rfl : ∀ (kV doc pm : Value) (an : Option Addr) (cdv ct : Value) (us : List Value), us.length = (["number"] : List Str).length → bindArgs (PySem.W.fnOf "number_cell" "number_cell" (defArgs s_number_cell) (defBody s_number_cell) (defScope s_number_cell) .none kV doc pm an cdv ct) ⟨us, []⟩ = pure ((["number"] : List Str).zip us))) kV doc pm an cdv ct us hl
theorem bd_word_cell (kV doc pm : Value) (an : Option Addr) (cdv ct : Value) (us : List Value) (hl : us.length = (["said"] : List Str).length) : bindArgs (PySem.W.fnOf "word_cell" "word_cell" (defArgs s_word_cell) (defBody s_word_cell) (defScope s_word_cell) .none kV doc pm an cdv ct) ⟨us, []⟩ = pure ((["said"] : List Str).zip us) := ((fun _ _ _ _ _ _ us hl => match us, hl with | [_], _ => rfl : ∀ (kV doc pm : Value) (an : Option Addr) (cdv ct : Value) (us : List Value), us.length = (["said"] : List Str).length → bindArgs (PySem.W.fnOf "word_cell" "word_cell" (defArgs s_word_cell) (defBody s_word_cell) (defScope s_word_cell) .none kV doc pm an cdv ct) ⟨us, []⟩ = pure ((["said"] : List Str).zip us))) kV doc pm an cdv ct us hl
theorem bd_in_limits (kV doc pm : Value) (an : Option Addr) (cdv ct : Value) (us : List Value) (hl : us.length = (["number"] : List Str).length) : bindArgs (PySem.W.fnOf "in_limits" "in_limits" (defArgs s_in_limits) (defBody s_in_limits) (defScope s_in_limits) .none kV doc pm an cdv ct) ⟨us, []⟩ = pure ((["number"] : List Str).zip us) := ((fun _ _ _ _ _ _ us hl => match us, hl with | [_], _ => rfl : ∀ (kV doc pm : Value) (an : Option Addr) (cdv ct : Value) (us : List Value), us.length = (["number"] : List Str).length → bindArgs (PySem.W.fnOf "in_limits" "in_limits" (defArgs s_in_limits) (defBody s_in_limits) (defScope s_in_limits) .none kV doc pm an cdv ct) ⟨us, []⟩ = pure ((["number"] : List Str).zip us))) kV doc pm an cdv ct us hl
theorem bd_told_bytes (kV doc pm : Value) (an : Option Addr) (cdv ct : Value) (us : List Value) (hl : us.length = (["said"] : List Str).length) : bindArgs (PySem.W.fnOf "told_bytes" "told_bytes" (defArgs s_told_bytes) (defBody s_told_bytes) (defScope s_told_bytes) .none kV doc pm an cdv ct) ⟨us, []⟩ = pure ((["said"] : List Str).zip us) := ((fun _ _ _ _ _ _ us hl => match us, hl with | [_], _ => rfl : ∀ (kV doc pm : Value) (an : Option Addr) (cdv ct : Value) (us : List Value), us.length = (["said"] : List Str).length → bindArgs (PySem.W.fnOf "told_bytes" "told_bytes" (defArgs s_told_bytes) (defBody s_told_bytes) (defScope s_told_bytes) .none kV doc pm an cdv ct) ⟨us, []⟩ = pure ((["said"] : List Str).zip us))) kV doc pm an cdv ct us hl
theorem bd_told_cell (kV doc pm : Value) (an : Option Addr) (cdv ct : Value) (us : List Value) (hl : us.length = (["cell"] : List Str).length) : bindArgs (PySem.W.fnOf "told_cell" "told_cell" (defArgs s_told_cell) (defBody s_told_cell) (defScope s_told_cell) .none kV doc pm an cdv ct) ⟨us, []⟩ = pure ((["cell"] : List Str).zip us) := ((fun _ _ _ _ _ _ us hl => match us, hl with | [_], _ => rfl : ∀ (kV doc pm : Value) (an : Option Addr) (cdv ct : Value) (us : List Value), us.length = (["cell"] : List Str).length → bindArgs (PySem.W.fnOf "told_cell" "told_cell" (defArgs s_told_cell) (defBody s_told_cell) (defScope s_told_cell) .none kV doc pm an cdv ct) ⟨us, []⟩ = pure ((["cell"] : List Str).zip us))) kV doc pm an cdv ct us hl
theorem bd_needs_quotes (kV doc pm : Value) (an : Option Addr) (cdv ct : Value) (us : List Value) (hl : us.length = (["said"] : List Str).length) : bindArgs (PySem.W.fnOf "needs_quotes" "needs_quotes" (defArgs s_needs_quotes) (defBody s_needs_quotes) (defScope s_needs_quotes) .none kV doc pm an cdv ct) ⟨us, []⟩ = pure ((["said"] : List Str).zip us) := ((fun _ _ _ _ _ _ us hl => match us, hl with | [_], _ => rfl : ∀ (kV doc pm : Value) (an : Option Addr) (cdv ct : Value) (us : List Value), us.length = (["said"] : List Str).length → bindArgs (PySem.W.fnOf "needs_quotes" "needs_quotes" (defArgs s_needs_quotes) (defBody s_needs_quotes) (defScope s_needs_quotes) .none kV doc pm an cdv ct) ⟨us, []⟩ = pure ((["said"] : List Str).zip us))) kV doc pm an cdv ct us hl
theorem bd_in_quotes (kV doc pm : Value) (an : Option Addr) (cdv ct : Value) (us : List Value) (hl : us.length = (["said"] : List Str).length) : bindArgs (PySem.W.fnOf "in_quotes" "in_quotes" (defArgs s_in_quotes) (defBody s_in_quotes) (defScope s_in_quotes) .none kV doc pm an cdv ct) ⟨us, []⟩ = pure ((["said"] : List Str).zip us) := ((fun _ _ _ _ _ _ us hl => match us, hl with | [_], _ => rfl : ∀ (kV doc pm : Value) (an : Option Addr) (cdv ct : Value) (us : List Value), us.length = (["said"] : List Str).length → bindArgs (PySem.W.fnOf "in_quotes" "in_quotes" (defArgs s_in_quotes) (defBody s_in_quotes) (defScope s_in_quotes) .none kV doc pm an cdv ct) ⟨us, []⟩ = pure ((["said"] : List Str).zip us))) kV doc pm an cdv ct us hl
theorem bd_shown_cell (kV doc pm : Value) (an : Option Addr) (cdv ct : Value) (us : List Value) (hl : us.length = (["cell"] : List Str).length) : bindArgs (PySem.W.fnOf "shown_cell" "shown_cell" (defArgs s_shown_cell) (defBody s_shown_cell) (defScope s_shown_cell) .none kV doc pm an cdv ct) ⟨us, []⟩ = pure ((["cell"] : List Str).zip us) := ((fun _ _ _ _ _ _ us hl => match us, hl with | [_], _ => rfl : ∀ (kV doc pm : Value) (an : Option Addr) (cdv ct : Value) (us : List Value), us.length = (["cell"] : List Str).length → bindArgs (PySem.W.fnOf "shown_cell" "shown_cell" (defArgs s_shown_cell) (defBody s_shown_cell) (defScope s_shown_cell) .none kV doc pm an cdv ct) ⟨us, []⟩ = pure ((["cell"] : List Str).zip us))) kV doc pm an cdv ct us hl
theorem bd_is_column (kV doc pm : Value) (an : Option Addr) (cdv ct : Value) (us : List Value) (hl : us.length = (["table", "column"] : List Str).length) : bindArgs (PySem.W.fnOf "is_column" "is_column" (defArgs s_is_column) (defBody s_is_column) (defScope s_is_column) .none kV doc pm an cdv ct) ⟨us, []⟩ = pure ((["table", "column"] : List Str).zip us) := ((fun _ _ _ _ _ _ us hl => match us, hl with | [_, _], _ => rfl : ∀ (kV doc pm : Value) (an : Option Addr) (cdv ct : Value) (us : List Value), us.length = (["table", "column"] : List Str).length → bindArgs (PySem.W.fnOf "is_column" "is_column" (defArgs s_is_column) (defBody s_is_column) (defScope s_is_column) .none kV doc pm an cdv ct) ⟨us, []⟩ = pure ((["table", "column"] : List Str).zip us))) kV doc pm an cdv ct us hl
theorem bd_columns_good (kV doc pm : Value) (an : Option Addr) (cdv ct : Value) (us : List Value) (hl : us.length = (["table", "columns"] : List Str).length) : bindArgs (PySem.W.fnOf "columns_good" "columns_good" (defArgs s_columns_good) (defBody s_columns_good) (defScope s_columns_good) .none kV doc pm an cdv ct) ⟨us, []⟩ = pure ((["table", "columns"] : List Str).zip us) := ((fun _ _ _ _ _ _ us hl => match us, hl with | [_, _], _ => rfl : ∀ (kV doc pm : Value) (an : Option Addr) (cdv ct : Value) (us : List Value), us.length = (["table", "columns"] : List Str).length → bindArgs (PySem.W.fnOf "columns_good" "columns_good" (defArgs s_columns_good) (defBody s_columns_good) (defScope s_columns_good) .none kV doc pm an cdv ct) ⟨us, []⟩ = pure ((["table", "columns"] : List Str).zip us))) kV doc pm an cdv ct us hl
theorem bd_column_cells (kV doc pm : Value) (an : Option Addr) (cdv ct : Value) (us : List Value) (hl : us.length = (["table", "column"] : List Str).length) : bindArgs (PySem.W.fnOf "column_cells" "column_cells" (defArgs s_column_cells) (defBody s_column_cells) (defScope s_column_cells) .none kV doc pm an cdv ct) ⟨us, []⟩ = pure ((["table", "column"] : List Str).zip us) := ((fun _ _ _ _ _ _ us hl => match us, hl with | [_, _], _ => rfl : ∀ (kV doc pm : Value) (an : Option Addr) (cdv ct : Value) (us : List Value), us.length = (["table", "column"] : List Str).length → bindArgs (PySem.W.fnOf "column_cells" "column_cells" (defArgs s_column_cells) (defBody s_column_cells) (defScope s_column_cells) .none kV doc pm an cdv ct) ⟨us, []⟩ = pure ((["table", "column"] : List Str).zip us))) kV doc pm an cdv ct us hl
theorem bd_numbers_of (kV doc pm : Value) (an : Option Addr) (cdv ct : Value) (us : List Value) (hl : us.length = (["cells"] : List Str).length) : bindArgs (PySem.W.fnOf "numbers_of" "numbers_of" (defArgs s_numbers_of) (defBody s_numbers_of) (defScope s_numbers_of) .none kV doc pm an cdv ct) ⟨us, []⟩ = pure ((["cells"] : List Str).zip us) := ((fun _ _ _ _ _ _ us hl => match us, hl with | [_], _ => rfl : ∀ (kV doc pm : Value) (an : Option Addr) (cdv ct : Value) (us : List Value), us.length = (["cells"] : List Str).length → bindArgs (PySem.W.fnOf "numbers_of" "numbers_of" (defArgs s_numbers_of) (defBody s_numbers_of) (defScope s_numbers_of) .none kV doc pm an cdv ct) ⟨us, []⟩ = pure ((["cells"] : List Str).zip us))) kV doc pm an cdv ct us hl
theorem bd_words_of (kV doc pm : Value) (an : Option Addr) (cdv ct : Value) (us : List Value) (hl : us.length = (["cells"] : List Str).length) : bindArgs (PySem.W.fnOf "words_of" "words_of" (defArgs s_words_of) (defBody s_words_of) (defScope s_words_of) .none kV doc pm an cdv ct) ⟨us, []⟩ = pure ((["cells"] : List Str).zip us) := ((fun _ _ _ _ _ _ us hl => match us, hl with | [_], _ => rfl : ∀ (kV doc pm : Value) (an : Option Addr) (cdv ct : Value) (us : List Value), us.length = (["cells"] : List Str).length → bindArgs (PySem.W.fnOf "words_of" "words_of" (defArgs s_words_of) (defBody s_words_of) (defScope s_words_of) .none kV doc pm an cdv ct) ⟨us, []⟩ = pure ((["cells"] : List Str).zip us))) kV doc pm an cdv ct us hl
theorem bd_kind_of (kV doc pm : Value) (an : Option Addr) (cdv ct : Value) (us : List Value) (hl : us.length = (["cells"] : List Str).length) : bindArgs (PySem.W.fnOf "kind_of" "kind_of" (defArgs s_kind_of) (defBody s_kind_of) (defScope s_kind_of) .none kV doc pm an cdv ct) ⟨us, []⟩ = pure ((["cells"] : List Str).zip us) := ((fun _ _ _ _ _ _ us hl => match us, hl with | [_], _ => rfl : ∀ (kV doc pm : Value) (an : Option Addr) (cdv ct : Value) (us : List Value), us.length = (["cells"] : List Str).length → bindArgs (PySem.W.fnOf "kind_of" "kind_of" (defArgs s_kind_of) (defBody s_kind_of) (defScope s_kind_of) .none kV doc pm an cdv ct) ⟨us, []⟩ = pure ((["cells"] : List Str).zip us))) kV doc pm an cdv ct us hl
theorem bd_how_many_empty (kV doc pm : Value) (an : Option Addr) (cdv ct : Value) (us : List Value) (hl : us.length = (["cells"] : List Str).length) : bindArgs (PySem.W.fnOf "how_many_empty" "how_many_empty" (defArgs s_how_many_empty) (defBody s_how_many_empty) (defScope s_how_many_empty) .none kV doc pm an cdv ct) ⟨us, []⟩ = pure ((["cells"] : List Str).zip us) := ((fun _ _ _ _ _ _ us hl => match us, hl with | [_], _ => rfl : ∀ (kV doc pm : Value) (an : Option Addr) (cdv ct : Value) (us : List Value), us.length = (["cells"] : List Str).length → bindArgs (PySem.W.fnOf "how_many_empty" "how_many_empty" (defArgs s_how_many_empty) (defBody s_how_many_empty) (defScope s_how_many_empty) .none kV doc pm an cdv ct) ⟨us, []⟩ = pure ((["cells"] : List Str).zip us))) kV doc pm an cdv ct us hl
theorem bd_how_many_unlike (kV doc pm : Value) (an : Option Addr) (cdv ct : Value) (us : List Value) (hl : us.length = (["cells"] : List Str).length) : bindArgs (PySem.W.fnOf "how_many_unlike" "how_many_unlike" (defArgs s_how_many_unlike) (defBody s_how_many_unlike) (defScope s_how_many_unlike) .none kV doc pm an cdv ct) ⟨us, []⟩ = pure ((["cells"] : List Str).zip us) := ((fun _ _ _ _ _ _ us hl => match us, hl with | [_], _ => rfl : ∀ (kV doc pm : Value) (an : Option Addr) (cdv ct : Value) (us : List Value), us.length = (["cells"] : List Str).length → bindArgs (PySem.W.fnOf "how_many_unlike" "how_many_unlike" (defArgs s_how_many_unlike) (defBody s_how_many_unlike) (defScope s_how_many_unlike) .none kV doc pm an cdv ct) ⟨us, []⟩ = pure ((["cells"] : List Str).zip us))) kV doc pm an cdv ct us hl
theorem bd_column_told (kV doc pm : Value) (an : Option Addr) (cdv ct : Value) (us : List Value) (hl : us.length = (["table", "column"] : List Str).length) : bindArgs (PySem.W.fnOf "column_told" "column_told" (defArgs s_column_told) (defBody s_column_told) (defScope s_column_told) .none kV doc pm an cdv ct) ⟨us, []⟩ = pure ((["table", "column"] : List Str).zip us) := ((fun _ _ _ _ _ _ us hl => match us, hl with | [_, _], _ => rfl : ∀ (kV doc pm : Value) (an : Option Addr) (cdv ct : Value) (us : List Value), us.length = (["table", "column"] : List Str).length → bindArgs (PySem.W.fnOf "column_told" "column_told" (defArgs s_column_told) (defBody s_column_told) (defScope s_column_told) .none kV doc pm an cdv ct) ⟨us, []⟩ = pure ((["table", "column"] : List Str).zip us))) kV doc pm an cdv ct us hl
theorem bd_found (kV doc pm : Value) (an : Option Addr) (cdv ct : Value) (us : List Value) (hl : us.length = (["table", "cell"] : List Str).length) : bindArgs (PySem.W.fnOf "found" "found" (defArgs s_found) (defBody s_found) (defScope s_found) .none kV doc pm an cdv ct) ⟨us, []⟩ = pure ((["table", "cell"] : List Str).zip us) := ((fun _ _ _ _ _ _ us hl => match us, hl with | [_, _], _ => rfl : ∀ (kV doc pm : Value) (an : Option Addr) (cdv ct : Value) (us : List Value), us.length = (["table", "cell"] : List Str).length → bindArgs (PySem.W.fnOf "found" "found" (defArgs s_found) (defBody s_found) (defScope s_found) .none kV doc pm an cdv ct) ⟨us, []⟩ = pure ((["table", "cell"] : List Str).zip us))) kV doc pm an cdv ct us hl
theorem bd_alike_in (kV doc pm : Value) (an : Option Addr) (cdv ct : Value) (us : List Value) (hl : us.length = (["one", "other", "columns"] : List Str).length) : bindArgs (PySem.W.fnOf "alike_in" "alike_in" (defArgs s_alike_in) (defBody s_alike_in) (defScope s_alike_in) .none kV doc pm an cdv ct) ⟨us, []⟩ = pure ((["one", "other", "columns"] : List Str).zip us) := ((fun _ _ _ _ _ _ us hl => match us, hl with | [_, _, _], _ => rfl : ∀ (kV doc pm : Value) (an : Option Addr) (cdv ct : Value) (us : List Value), us.length = (["one", "other", "columns"] : List Str).length → bindArgs (PySem.W.fnOf "alike_in" "alike_in" (defArgs s_alike_in) (defBody s_alike_in) (defScope s_alike_in) .none kV doc pm an cdv ct) ⟨us, []⟩ = pure ((["one", "other", "columns"] : List Str).zip us))) kV doc pm an cdv ct us hl
theorem bd_earlier (kV doc pm : Value) (an : Option Addr) (cdv ct : Value) (us : List Value) (hl : us.length = (["table", "columns", "row"] : List Str).length) : bindArgs (PySem.W.fnOf "earlier" "earlier" (defArgs s_earlier) (defBody s_earlier) (defScope s_earlier) .none kV doc pm an cdv ct) ⟨us, []⟩ = pure ((["table", "columns", "row"] : List Str).zip us) := ((fun _ _ _ _ _ _ us hl => match us, hl with | [_, _, _], _ => rfl : ∀ (kV doc pm : Value) (an : Option Addr) (cdv ct : Value) (us : List Value), us.length = (["table", "columns", "row"] : List Str).length → bindArgs (PySem.W.fnOf "earlier" "earlier" (defArgs s_earlier) (defBody s_earlier) (defScope s_earlier) .none kV doc pm an cdv ct) ⟨us, []⟩ = pure ((["table", "columns", "row"] : List Str).zip us))) kV doc pm an cdv ct us hl
theorem bd_twice (kV doc pm : Value) (an : Option Addr) (cdv ct : Value) (us : List Value) (hl : us.length = (["table", "columns"] : List Str).length) : bindArgs (PySem.W.fnOf "twice" "twice" (defArgs s_twice) (defBody s_twice) (defScope s_twice) .none kV doc pm an cdv ct) ⟨us, []⟩ = pure ((["table", "columns"] : List Str).zip us) := ((fun _ _ _ _ _ _ us hl => match us, hl with | [_, _], _ => rfl : ∀ (kV doc pm : Value) (an : Option Addr) (cdv ct : Value) (us : List Value), us.length = (["table", "columns"] : List Str).length → bindArgs (PySem.W.fnOf "twice" "twice" (defArgs s_twice) (defBody s_twice) (defScope s_twice) .none kV doc pm an cdv ct) ⟨us, []⟩ = pure ((["table", "columns"] : List Str).zip us))) kV doc pm an cdv ct us hl
theorem bd_is_key (kV doc pm : Value) (an : Option Addr) (cdv ct : Value) (us : List Value) (hl : us.length = (["table", "columns"] : List Str).length) : bindArgs (PySem.W.fnOf "is_key" "is_key" (defArgs s_is_key) (defBody s_is_key) (defScope s_is_key) .none kV doc pm an cdv ct) ⟨us, []⟩ = pure ((["table", "columns"] : List Str).zip us) := ((fun _ _ _ _ _ _ us hl => match us, hl with | [_, _], _ => rfl : ∀ (kV doc pm : Value) (an : Option Addr) (cdv ct : Value) (us : List Value), us.length = (["table", "columns"] : List Str).length → bindArgs (PySem.W.fnOf "is_key" "is_key" (defArgs s_is_key) (defBody s_is_key) (defScope s_is_key) .none kV doc pm an cdv ct) ⟨us, []⟩ = pure ((["table", "columns"] : List Str).zip us))) kV doc pm an cdv ct us hl
theorem bd_columns_in (kV doc pm : Value) (an : Option Addr) (cdv ct : Value) (us : List Value) (hl : us.length = (["many", "bits"] : List Str).length) : bindArgs (PySem.W.fnOf "columns_in" "columns_in" (defArgs s_columns_in) (defBody s_columns_in) (defScope s_columns_in) .none kV doc pm an cdv ct) ⟨us, []⟩ = pure ((["many", "bits"] : List Str).zip us) := ((fun _ _ _ _ _ _ us hl => match us, hl with | [_, _], _ => rfl : ∀ (kV doc pm : Value) (an : Option Addr) (cdv ct : Value) (us : List Value), us.length = (["many", "bits"] : List Str).length → bindArgs (PySem.W.fnOf "columns_in" "columns_in" (defArgs s_columns_in) (defBody s_columns_in) (defScope s_columns_in) .none kV doc pm an cdv ct) ⟨us, []⟩ = pure ((["many", "bits"] : List Str).zip us))) kV doc pm an cdv ct us hl
theorem bd_column_sets (kV doc pm : Value) (an : Option Addr) (cdv ct : Value) (us : List Value) (hl : us.length = (["many"] : List Str).length) : bindArgs (PySem.W.fnOf "column_sets" "column_sets" (defArgs s_column_sets) (defBody s_column_sets) (defScope s_column_sets) .none kV doc pm an cdv ct) ⟨us, []⟩ = pure ((["many"] : List Str).zip us) := ((fun _ _ _ _ _ _ us hl => match us, hl with | [_], _ => rfl : ∀ (kV doc pm : Value) (an : Option Addr) (cdv ct : Value) (us : List Value), us.length = (["many"] : List Str).length → bindArgs (PySem.W.fnOf "column_sets" "column_sets" (defArgs s_column_sets) (defBody s_column_sets) (defScope s_column_sets) .none kV doc pm an cdv ct) ⟨us, []⟩ = pure ((["many"] : List Str).zip us))) kV doc pm an cdv ct us hl
theorem bd_is_part (kV doc pm : Value) (an : Option Addr) (cdv ct : Value) (us : List Value) (hl : us.length = (["some", "columns"] : List Str).length) : bindArgs (PySem.W.fnOf "is_part" "is_part" (defArgs s_is_part) (defBody s_is_part) (defScope s_is_part) .none kV doc pm an cdv ct) ⟨us, []⟩ = pure ((["some", "columns"] : List Str).zip us) := ((fun _ _ _ _ _ _ us hl => match us, hl with | [_, _], _ => rfl : ∀ (kV doc pm : Value) (an : Option Addr) (cdv ct : Value) (us : List Value), us.length = (["some", "columns"] : List Str).length → bindArgs (PySem.W.fnOf "is_part" "is_part" (defArgs s_is_part) (defBody s_is_part) (defScope s_is_part) .none kV doc pm an cdv ct) ⟨us, []⟩ = pure ((["some", "columns"] : List Str).zip us))) kV doc pm an cdv ct us hl
theorem bd_least_keys (kV doc pm : Value) (an : Option Addr) (cdv ct : Value) (us : List Value) (hl : us.length = (["table"] : List Str).length) : bindArgs (PySem.W.fnOf "least_keys" "least_keys" (defArgs s_least_keys) (defBody s_least_keys) (defScope s_least_keys) .none kV doc pm an cdv ct) ⟨us, []⟩ = pure ((["table"] : List Str).zip us) := ((fun _ _ _ _ _ _ us hl => match us, hl with | [_], _ => rfl : ∀ (kV doc pm : Value) (an : Option Addr) (cdv ct : Value) (us : List Value), us.length = (["table"] : List Str).length → bindArgs (PySem.W.fnOf "least_keys" "least_keys" (defArgs s_least_keys) (defBody s_least_keys) (defScope s_least_keys) .none kV doc pm an cdv ct) ⟨us, []⟩ = pure ((["table"] : List Str).zip us))) kV doc pm an cdv ct us hl
theorem bd_picked (kV doc pm : Value) (an : Option Addr) (cdv ct : Value) (us : List Value) (hl : us.length = (["row", "columns"] : List Str).length) : bindArgs (PySem.W.fnOf "picked" "picked" (defArgs s_picked) (defBody s_picked) (defScope s_picked) .none kV doc pm an cdv ct) ⟨us, []⟩ = pure ((["row", "columns"] : List Str).zip us) := ((fun _ _ _ _ _ _ us hl => match us, hl with | [_, _], _ => rfl : ∀ (kV doc pm : Value) (an : Option Addr) (cdv ct : Value) (us : List Value), us.length = (["row", "columns"] : List Str).length → bindArgs (PySem.W.fnOf "picked" "picked" (defArgs s_picked) (defBody s_picked) (defScope s_picked) .none kV doc pm an cdv ct) ⟨us, []⟩ = pure ((["row", "columns"] : List Str).zip us))) kV doc pm an cdv ct us hl
theorem bd_ordered_rows (kV doc pm : Value) (an : Option Addr) (cdv ct : Value) (us : List Value) (hl : us.length = (["table", "columns"] : List Str).length) : bindArgs (PySem.W.fnOf "ordered_rows" "ordered_rows" (defArgs s_ordered_rows) (defBody s_ordered_rows) (defScope s_ordered_rows) .none kV doc pm an cdv ct) ⟨us, []⟩ = pure ((["table", "columns"] : List Str).zip us) := ((fun _ _ _ _ _ _ us hl => match us, hl with | [_, _], _ => rfl : ∀ (kV doc pm : Value) (an : Option Addr) (cdv ct : Value) (us : List Value), us.length = (["table", "columns"] : List Str).length → bindArgs (PySem.W.fnOf "ordered_rows" "ordered_rows" (defArgs s_ordered_rows) (defBody s_ordered_rows) (defScope s_ordered_rows) .none kV doc pm an cdv ct) ⟨us, []⟩ = pure ((["table", "columns"] : List Str).zip us))) kV doc pm an cdv ct us hl
theorem bd_same_rows (kV doc pm : Value) (an : Option Addr) (cdv ct : Value) (us : List Value) (hl : us.length = (["ones", "others"] : List Str).length) : bindArgs (PySem.W.fnOf "same_rows" "same_rows" (defArgs s_same_rows) (defBody s_same_rows) (defScope s_same_rows) .none kV doc pm an cdv ct) ⟨us, []⟩ = pure ((["ones", "others"] : List Str).zip us) := ((fun _ _ _ _ _ _ us hl => match us, hl with | [_, _], _ => rfl : ∀ (kV doc pm : Value) (an : Option Addr) (cdv ct : Value) (us : List Value), us.length = (["ones", "others"] : List Str).length → bindArgs (PySem.W.fnOf "same_rows" "same_rows" (defArgs s_same_rows) (defBody s_same_rows) (defScope s_same_rows) .none kV doc pm an cdv ct) ⟨us, []⟩ = pure ((["ones", "others"] : List Str).zip us))) kV doc pm an cdv ct us hl
theorem bd_rows_by_names (kV doc pm : Value) (an : Option Addr) (cdv ct : Value) (us : List Value) (hl : us.length = (["table", "names"] : List Str).length) : bindArgs (PySem.W.fnOf "rows_by_names" "rows_by_names" (defArgs s_rows_by_names) (defBody s_rows_by_names) (defScope s_rows_by_names) .none kV doc pm an cdv ct) ⟨us, []⟩ = pure ((["table", "names"] : List Str).zip us) := ((fun _ _ _ _ _ _ us hl => match us, hl with | [_, _], _ => rfl : ∀ (kV doc pm : Value) (an : Option Addr) (cdv ct : Value) (us : List Value), us.length = (["table", "names"] : List Str).length → bindArgs (PySem.W.fnOf "rows_by_names" "rows_by_names" (defArgs s_rows_by_names) (defBody s_rows_by_names) (defScope s_rows_by_names) .none kV doc pm an cdv ct) ⟨us, []⟩ = pure ((["table", "names"] : List Str).zip us))) kV doc pm an cdv ct us hl
theorem bd_how_alike (kV doc pm : Value) (an : Option Addr) (cdv ct : Value) (us : List Value) (hl : us.length = (["one", "other"] : List Str).length) : bindArgs (PySem.W.fnOf "how_alike" "how_alike" (defArgs s_how_alike) (defBody s_how_alike) (defScope s_how_alike) .none kV doc pm an cdv ct) ⟨us, []⟩ = pure ((["one", "other"] : List Str).zip us) := ((fun _ _ _ _ _ _ us hl => match us, hl with | [_, _], _ => rfl : ∀ (kV doc pm : Value) (an : Option Addr) (cdv ct : Value) (us : List Value), us.length = (["one", "other"] : List Str).length → bindArgs (PySem.W.fnOf "how_alike" "how_alike" (defArgs s_how_alike) (defBody s_how_alike) (defScope s_how_alike) .none kV doc pm an cdv ct) ⟨us, []⟩ = pure ((["one", "other"] : List Str).zip us))) kV doc pm an cdv ct us hl
theorem bd_shown_line (kV doc pm : Value) (an : Option Addr) (cdv ct : Value) (us : List Value) (hl : us.length = (["parts"] : List Str).length) : bindArgs (PySem.W.fnOf "shown_line" "shown_line" (defArgs s_shown_line) (defBody s_shown_line) (defScope s_shown_line) .none kV doc pm an cdv ct) ⟨us, []⟩ = pure ((["parts"] : List Str).zip us) := ((fun _ _ _ _ _ _ us hl => match us, hl with | [_], _ => rfl : ∀ (kV doc pm : Value) (an : Option Addr) (cdv ct : Value) (us : List Value), us.length = (["parts"] : List Str).length → bindArgs (PySem.W.fnOf "shown_line" "shown_line" (defArgs s_shown_line) (defBody s_shown_line) (defScope s_shown_line) .none kV doc pm an cdv ct) ⟨us, []⟩ = pure ((["parts"] : List Str).zip us))) kV doc pm an cdv ct us hl
theorem bd_shown_table (kV doc pm : Value) (an : Option Addr) (cdv ct : Value) (us : List Value) (hl : us.length = (["table"] : List Str).length) : bindArgs (PySem.W.fnOf "shown_table" "shown_table" (defArgs s_shown_table) (defBody s_shown_table) (defScope s_shown_table) .none kV doc pm an cdv ct) ⟨us, []⟩ = pure ((["table"] : List Str).zip us) := ((fun _ _ _ _ _ _ us hl => match us, hl with | [_], _ => rfl : ∀ (kV doc pm : Value) (an : Option Addr) (cdv ct : Value) (us : List Value), us.length = (["table"] : List Str).length → bindArgs (PySem.W.fnOf "shown_table" "shown_table" (defArgs s_shown_table) (defBody s_shown_table) (defScope s_shown_table) .none kV doc pm an cdv ct) ⟨us, []⟩ = pure ((["table"] : List Str).zip us))) kV doc pm an cdv ct us hl
theorem bd_told_table (kV doc pm : Value) (an : Option Addr) (cdv ct : Value) (us : List Value) (hl : us.length = (["table"] : List Str).length) : bindArgs (PySem.W.fnOf "told_table" "told_table" (defArgs s_told_table) (defBody s_told_table) (defScope s_told_table) .none kV doc pm an cdv ct) ⟨us, []⟩ = pure ((["table"] : List Str).zip us) := ((fun _ _ _ _ _ _ us hl => match us, hl with | [_], _ => rfl : ∀ (kV doc pm : Value) (an : Option Addr) (cdv ct : Value) (us : List Value), us.length = (["table"] : List Str).length → bindArgs (PySem.W.fnOf "told_table" "told_table" (defArgs s_told_table) (defBody s_told_table) (defScope s_told_table) .none kV doc pm an cdv ct) ⟨us, []⟩ = pure ((["table"] : List Str).zip us))) kV doc pm an cdv ct us hl
theorem bd_names_good (kV doc pm : Value) (an : Option Addr) (cdv ct : Value) (us : List Value) (hl : us.length = (["said"] : List Str).length) : bindArgs (PySem.W.fnOf "names_good" "names_good" (defArgs s_names_good) (defBody s_names_good) (defScope s_names_good) .none kV doc pm an cdv ct) ⟨us, []⟩ = pure ((["said"] : List Str).zip us) := ((fun _ _ _ _ _ _ us hl => match us, hl with | [_], _ => rfl : ∀ (kV doc pm : Value) (an : Option Addr) (cdv ct : Value) (us : List Value), us.length = (["said"] : List Str).length → bindArgs (PySem.W.fnOf "names_good" "names_good" (defArgs s_names_good) (defBody s_names_good) (defScope s_names_good) .none kV doc pm an cdv ct) ⟨us, []⟩ = pure ((["said"] : List Str).zip us))) kV doc pm an cdv ct us hl
theorem bd_taken_cell (kV doc pm : Value) (an : Option Addr) (cdv ct : Value) (us : List Value) (hl : us.length = (["numbers"] : List Str).length) : bindArgs (PySem.W.fnOf "taken_cell" "taken_cell" (defArgs s_taken_cell) (defBody s_taken_cell) (defScope s_taken_cell) .none kV doc pm an cdv ct) ⟨us, []⟩ = pure ((["numbers"] : List Str).zip us) := ((fun _ _ _ _ _ _ us hl => match us, hl with | [_], _ => rfl : ∀ (kV doc pm : Value) (an : Option Addr) (cdv ct : Value) (us : List Value), us.length = (["numbers"] : List Str).length → bindArgs (PySem.W.fnOf "taken_cell" "taken_cell" (defArgs s_taken_cell) (defBody s_taken_cell) (defScope s_taken_cell) .none kV doc pm an cdv ct) ⟨us, []⟩ = pure ((["numbers"] : List Str).zip us))) kV doc pm an cdv ct us hl
theorem bd_taken_table (kV doc pm : Value) (an : Option Addr) (cdv ct : Value) (us : List Value) (hl : us.length = (["numbers"] : List Str).length) : bindArgs (PySem.W.fnOf "taken_table" "taken_table" (defArgs s_taken_table) (defBody s_taken_table) (defScope s_taken_table) .none kV doc pm an cdv ct) ⟨us, []⟩ = pure ((["numbers"] : List Str).zip us) := ((fun _ _ _ _ _ _ us hl => match us, hl with | [_], _ => rfl : ∀ (kV doc pm : Value) (an : Option Addr) (cdv ct : Value) (us : List Value), us.length = (["numbers"] : List Str).length → bindArgs (PySem.W.fnOf "taken_table" "taken_table" (defArgs s_taken_table) (defBody s_taken_table) (defScope s_taken_table) .none kV doc pm an cdv ct) ⟨us, []⟩ = pure ((["numbers"] : List Str).zip us))) kV doc pm an cdv ct us hl
theorem bd_counted (kV doc pm : Value) (an : Option Addr) (cdv ct : Value) (us : List Value) (hl : us.length = (["numbers"] : List Str).length) : bindArgs (PySem.W.fnOf "counted" "counted" (defArgs s_counted) (defBody s_counted) (defScope s_counted) .none kV doc pm an cdv ct) ⟨us, []⟩ = pure ((["numbers"] : List Str).zip us) := ((fun _ _ _ _ _ _ us hl => match us, hl with | [_], _ => rfl : ∀ (kV doc pm : Value) (an : Option Addr) (cdv ct : Value) (us : List Value), us.length = (["numbers"] : List Str).length → bindArgs (PySem.W.fnOf "counted" "counted" (defArgs s_counted) (defBody s_counted) (defScope s_counted) .none kV doc pm an cdv ct) ⟨us, []⟩ = pure ((["numbers"] : List Str).zip us))) kV doc pm an cdv ct us hl
theorem bd_ask_cell (kV doc pm : Value) (an : Option Addr) (cdv ct : Value) (us : List Value) (hl : us.length = (["table", "row", "column"] : List Str).length) : bindArgs (PySem.W.fnOf "ask_cell" "ask_cell" (defArgs s_ask_cell) (defBody s_ask_cell) (defScope s_ask_cell) .none kV doc pm an cdv ct) ⟨us, []⟩ = pure ((["table", "row", "column"] : List Str).zip us) := ((fun _ _ _ _ _ _ us hl => match us, hl with | [_, _, _], _ => rfl : ∀ (kV doc pm : Value) (an : Option Addr) (cdv ct : Value) (us : List Value), us.length = (["table", "row", "column"] : List Str).length → bindArgs (PySem.W.fnOf "ask_cell" "ask_cell" (defArgs s_ask_cell) (defBody s_ask_cell) (defScope s_ask_cell) .none kV doc pm an cdv ct) ⟨us, []⟩ = pure ((["table", "row", "column"] : List Str).zip us))) kV doc pm an cdv ct us hl
theorem bd_ask_column (kV doc pm : Value) (an : Option Addr) (cdv ct : Value) (us : List Value) (hl : us.length = (["table", "column"] : List Str).length) : bindArgs (PySem.W.fnOf "ask_column" "ask_column" (defArgs s_ask_column) (defBody s_ask_column) (defScope s_ask_column) .none kV doc pm an cdv ct) ⟨us, []⟩ = pure ((["table", "column"] : List Str).zip us) := ((fun _ _ _ _ _ _ us hl => match us, hl with | [_, _], _ => rfl : ∀ (kV doc pm : Value) (an : Option Addr) (cdv ct : Value) (us : List Value), us.length = (["table", "column"] : List Str).length → bindArgs (PySem.W.fnOf "ask_column" "ask_column" (defArgs s_ask_column) (defBody s_ask_column) (defScope s_ask_column) .none kV doc pm an cdv ct) ⟨us, []⟩ = pure ((["table", "column"] : List Str).zip us))) kV doc pm an cdv ct us hl
theorem bd_ask_find (kV doc pm : Value) (an : Option Addr) (cdv ct : Value) (us : List Value) (hl : us.length = (["table", "numbers"] : List Str).length) : bindArgs (PySem.W.fnOf "ask_find" "ask_find" (defArgs s_ask_find) (defBody s_ask_find) (defScope s_ask_find) .none kV doc pm an cdv ct) ⟨us, []⟩ = pure ((["table", "numbers"] : List Str).zip us) := ((fun _ _ _ _ _ _ us hl => match us, hl with | [_, _], _ => rfl : ∀ (kV doc pm : Value) (an : Option Addr) (cdv ct : Value) (us : List Value), us.length = (["table", "numbers"] : List Str).length → bindArgs (PySem.W.fnOf "ask_find" "ask_find" (defArgs s_ask_find) (defBody s_ask_find) (defScope s_ask_find) .none kV doc pm an cdv ct) ⟨us, []⟩ = pure ((["table", "numbers"] : List Str).zip us))) kV doc pm an cdv ct us hl
theorem bd_ask_key (kV doc pm : Value) (an : Option Addr) (cdv ct : Value) (us : List Value) (hl : us.length = (["table", "columns"] : List Str).length) : bindArgs (PySem.W.fnOf "ask_key" "ask_key" (defArgs s_ask_key) (defBody s_ask_key) (defScope s_ask_key) .none kV doc pm an cdv ct) ⟨us, []⟩ = pure ((["table", "columns"] : List Str).zip us) := ((fun _ _ _ _ _ _ us hl => match us, hl with | [_, _], _ => rfl : ∀ (kV doc pm : Value) (an : Option Addr) (cdv ct : Value) (us : List Value), us.length = (["table", "columns"] : List Str).length → bindArgs (PySem.W.fnOf "ask_key" "ask_key" (defArgs s_ask_key) (defBody s_ask_key) (defScope s_ask_key) .none kV doc pm an cdv ct) ⟨us, []⟩ = pure ((["table", "columns"] : List Str).zip us))) kV doc pm an cdv ct us hl
theorem bd_ask_keys (kV doc pm : Value) (an : Option Addr) (cdv ct : Value) (us : List Value) (hl : us.length = (["table"] : List Str).length) : bindArgs (PySem.W.fnOf "ask_keys" "ask_keys" (defArgs s_ask_keys) (defBody s_ask_keys) (defScope s_ask_keys) .none kV doc pm an cdv ct) ⟨us, []⟩ = pure ((["table"] : List Str).zip us) := ((fun _ _ _ _ _ _ us hl => match us, hl with | [_], _ => rfl : ∀ (kV doc pm : Value) (an : Option Addr) (cdv ct : Value) (us : List Value), us.length = (["table"] : List Str).length → bindArgs (PySem.W.fnOf "ask_keys" "ask_keys" (defArgs s_ask_keys) (defBody s_ask_keys) (defScope s_ask_keys) .none kV doc pm an cdv ct) ⟨us, []⟩ = pure ((["table"] : List Str).zip us))) kV doc pm an cdv ct us hl
theorem bd_ask_sorted (kV doc pm : Value) (an : Option Addr) (cdv ct : Value) (us : List Value) (hl : us.length = (["table", "columns"] : List Str).length) : bindArgs (PySem.W.fnOf "ask_sorted" "ask_sorted" (defArgs s_ask_sorted) (defBody s_ask_sorted) (defScope s_ask_sorted) .none kV doc pm an cdv ct) ⟨us, []⟩ = pure ((["table", "columns"] : List Str).zip us) := ((fun _ _ _ _ _ _ us hl => match us, hl with | [_, _], _ => rfl : ∀ (kV doc pm : Value) (an : Option Addr) (cdv ct : Value) (us : List Value), us.length = (["table", "columns"] : List Str).length → bindArgs (PySem.W.fnOf "ask_sorted" "ask_sorted" (defArgs s_ask_sorted) (defBody s_ask_sorted) (defScope s_ask_sorted) .none kV doc pm an cdv ct) ⟨us, []⟩ = pure ((["table", "columns"] : List Str).zip us))) kV doc pm an cdv ct us hl
theorem bd_asked (kV doc pm : Value) (an : Option Addr) (cdv ct : Value) (us : List Value) (hl : us.length = (["table", "call"] : List Str).length) : bindArgs (PySem.W.fnOf "asked" "asked" (defArgs s_asked) (defBody s_asked) (defScope s_asked) .none kV doc pm an cdv ct) ⟨us, []⟩ = pure ((["table", "call"] : List Str).zip us) := ((fun _ _ _ _ _ _ us hl => match us, hl with | [_, _], _ => rfl : ∀ (kV doc pm : Value) (an : Option Addr) (cdv ct : Value) (us : List Value), us.length = (["table", "call"] : List Str).length → bindArgs (PySem.W.fnOf "asked" "asked" (defArgs s_asked) (defBody s_asked) (defScope s_asked) .none kV doc pm an cdv ct) ⟨us, []⟩ = pure ((["table", "call"] : List Str).zip us))) kV doc pm an cdv ct us hl
theorem bd_opens (kV doc pm : Value) (an : Option Addr) (cdv ct : Value) (us : List Value) (hl : us.length = (["text", "at"] : List Str).length) : bindArgs (PySem.W.fnOf "opens" "opens" (defArgs s_opens) (defBody s_opens) (defScope s_opens) .none kV doc pm an cdv ct) ⟨us, []⟩ = pure ((["text", "at"] : List Str).zip us) := ((fun _ _ _ _ _ _ us hl => match us, hl with | [_, _], _ => rfl : ∀ (kV doc pm : Value) (an : Option Addr) (cdv ct : Value) (us : List Value), us.length = (["text", "at"] : List Str).length → bindArgs (PySem.W.fnOf "opens" "opens" (defArgs s_opens) (defBody s_opens) (defScope s_opens) .none kV doc pm an cdv ct) ⟨us, []⟩ = pure ((["text", "at"] : List Str).zip us))) kV doc pm an cdv ct us hl
theorem bd_parts_cells (kV doc pm : Value) (an : Option Addr) (cdv ct : Value) (us : List Value) (hl : us.length = (["byte"] : List Str).length) : bindArgs (PySem.W.fnOf "parts_cells" "parts_cells" (defArgs s_parts_cells) (defBody s_parts_cells) (defScope s_parts_cells) .none kV doc pm an cdv ct) ⟨us, []⟩ = pure ((["byte"] : List Str).zip us) := ((fun _ _ _ _ _ _ us hl => match us, hl with | [_], _ => rfl : ∀ (kV doc pm : Value) (an : Option Addr) (cdv ct : Value) (us : List Value), us.length = (["byte"] : List Str).length → bindArgs (PySem.W.fnOf "parts_cells" "parts_cells" (defArgs s_parts_cells) (defBody s_parts_cells) (defScope s_parts_cells) .none kV doc pm an cdv ct) ⟨us, []⟩ = pure ((["byte"] : List Str).zip us))) kV doc pm an cdv ct us hl
theorem bd_bare_end (kV doc pm : Value) (an : Option Addr) (cdv ct : Value) (us : List Value) (hl : us.length = (["text", "at"] : List Str).length) : bindArgs (PySem.W.fnOf "bare_end" "bare_end" (defArgs s_bare_end) (defBody s_bare_end) (defScope s_bare_end) .none kV doc pm an cdv ct) ⟨us, []⟩ = pure ((["text", "at"] : List Str).zip us) := ((fun _ _ _ _ _ _ us hl => match us, hl with | [_, _], _ => rfl : ∀ (kV doc pm : Value) (an : Option Addr) (cdv ct : Value) (us : List Value), us.length = (["text", "at"] : List Str).length → bindArgs (PySem.W.fnOf "bare_end" "bare_end" (defArgs s_bare_end) (defBody s_bare_end) (defScope s_bare_end) .none kV doc pm an cdv ct) ⟨us, []⟩ = pure ((["text", "at"] : List Str).zip us))) kV doc pm an cdv ct us hl
theorem bd_closing (kV doc pm : Value) (an : Option Addr) (cdv ct : Value) (us : List Value) (hl : us.length = (["text", "at"] : List Str).length) : bindArgs (PySem.W.fnOf "closing" "closing" (defArgs s_closing) (defBody s_closing) (defScope s_closing) .none kV doc pm an cdv ct) ⟨us, []⟩ = pure ((["text", "at"] : List Str).zip us) := ((fun _ _ _ _ _ _ us hl => match us, hl with | [_, _], _ => rfl : ∀ (kV doc pm : Value) (an : Option Addr) (cdv ct : Value) (us : List Value), us.length = (["text", "at"] : List Str).length → bindArgs (PySem.W.fnOf "closing" "closing" (defArgs s_closing) (defBody s_closing) (defScope s_closing) .none kV doc pm an cdv ct) ⟨us, []⟩ = pure ((["text", "at"] : List Str).zip us))) kV doc pm an cdv ct us hl
theorem bd_cell_end (kV doc pm : Value) (an : Option Addr) (cdv ct : Value) (us : List Value) (hl : us.length = (["text", "at"] : List Str).length) : bindArgs (PySem.W.fnOf "cell_end" "cell_end" (defArgs s_cell_end) (defBody s_cell_end) (defScope s_cell_end) .none kV doc pm an cdv ct) ⟨us, []⟩ = pure ((["text", "at"] : List Str).zip us) := ((fun _ _ _ _ _ _ us hl => match us, hl with | [_, _], _ => rfl : ∀ (kV doc pm : Value) (an : Option Addr) (cdv ct : Value) (us : List Value), us.length = (["text", "at"] : List Str).length → bindArgs (PySem.W.fnOf "cell_end" "cell_end" (defArgs s_cell_end) (defBody s_cell_end) (defScope s_cell_end) .none kV doc pm an cdv ct) ⟨us, []⟩ = pure ((["text", "at"] : List Str).zip us))) kV doc pm an cdv ct us hl
theorem bd_goes_on (kV doc pm : Value) (an : Option Addr) (cdv ct : Value) (us : List Value) (hl : us.length = (["text", "end"] : List Str).length) : bindArgs (PySem.W.fnOf "goes_on" "goes_on" (defArgs s_goes_on) (defBody s_goes_on) (defScope s_goes_on) .none kV doc pm an cdv ct) ⟨us, []⟩ = pure ((["text", "end"] : List Str).zip us) := ((fun _ _ _ _ _ _ us hl => match us, hl with | [_, _], _ => rfl : ∀ (kV doc pm : Value) (an : Option Addr) (cdv ct : Value) (us : List Value), us.length = (["text", "end"] : List Str).length → bindArgs (PySem.W.fnOf "goes_on" "goes_on" (defArgs s_goes_on) (defBody s_goes_on) (defScope s_goes_on) .none kV doc pm an cdv ct) ⟨us, []⟩ = pure ((["text", "end"] : List Str).zip us))) kV doc pm an cdv ct us hl
theorem bd_starts (kV doc pm : Value) (an : Option Addr) (cdv ct : Value) (us : List Value) (hl : us.length = (["text"] : List Str).length) : bindArgs (PySem.W.fnOf "starts" "starts" (defArgs s_starts) (defBody s_starts) (defScope s_starts) .none kV doc pm an cdv ct) ⟨us, []⟩ = pure ((["text"] : List Str).zip us) := ((fun _ _ _ _ _ _ us hl => match us, hl with | [_], _ => rfl : ∀ (kV doc pm : Value) (an : Option Addr) (cdv ct : Value) (us : List Value), us.length = (["text"] : List Str).length → bindArgs (PySem.W.fnOf "starts" "starts" (defArgs s_starts) (defBody s_starts) (defScope s_starts) .none kV doc pm an cdv ct) ⟨us, []⟩ = pure ((["text"] : List Str).zip us))) kV doc pm an cdv ct us hl
theorem bd_quoted_bytes (kV doc pm : Value) (an : Option Addr) (cdv ct : Value) (us : List Value) (hl : us.length = (["text", "at", "close"] : List Str).length) : bindArgs (PySem.W.fnOf "quoted_bytes" "quoted_bytes" (defArgs s_quoted_bytes) (defBody s_quoted_bytes) (defScope s_quoted_bytes) .none kV doc pm an cdv ct) ⟨us, []⟩ = pure ((["text", "at", "close"] : List Str).zip us) := ((fun _ _ _ _ _ _ us hl => match us, hl with | [_, _, _], _ => rfl : ∀ (kV doc pm : Value) (an : Option Addr) (cdv ct : Value) (us : List Value), us.length = (["text", "at", "close"] : List Str).length → bindArgs (PySem.W.fnOf "quoted_bytes" "quoted_bytes" (defArgs s_quoted_bytes) (defBody s_quoted_bytes) (defScope s_quoted_bytes) .none kV doc pm an cdv ct) ⟨us, []⟩ = pure ((["text", "at", "close"] : List Str).zip us))) kV doc pm an cdv ct us hl
theorem bd_piece_at (kV doc pm : Value) (an : Option Addr) (cdv ct : Value) (us : List Value) (hl : us.length = (["text", "at"] : List Str).length) : bindArgs (PySem.W.fnOf "piece_at" "piece_at" (defArgs s_piece_at) (defBody s_piece_at) (defScope s_piece_at) .none kV doc pm an cdv ct) ⟨us, []⟩ = pure ((["text", "at"] : List Str).zip us) := ((fun _ _ _ _ _ _ us hl => match us, hl with | [_, _], _ => rfl : ∀ (kV doc pm : Value) (an : Option Addr) (cdv ct : Value) (us : List Value), us.length = (["text", "at"] : List Str).length → bindArgs (PySem.W.fnOf "piece_at" "piece_at" (defArgs s_piece_at) (defBody s_piece_at) (defScope s_piece_at) .none kV doc pm an cdv ct) ⟨us, []⟩ = pure ((["text", "at"] : List Str).zip us))) kV doc pm an cdv ct us hl
theorem bd_lines_of (kV doc pm : Value) (an : Option Addr) (cdv ct : Value) (us : List Value) (hl : us.length = (["text"] : List Str).length) : bindArgs (PySem.W.fnOf "lines_of" "lines_of" (defArgs s_lines_of) (defBody s_lines_of) (defScope s_lines_of) .none kV doc pm an cdv ct) ⟨us, []⟩ = pure ((["text"] : List Str).zip us) := ((fun _ _ _ _ _ _ us hl => match us, hl with | [_], _ => rfl : ∀ (kV doc pm : Value) (an : Option Addr) (cdv ct : Value) (us : List Value), us.length = (["text"] : List Str).length → bindArgs (PySem.W.fnOf "lines_of" "lines_of" (defArgs s_lines_of) (defBody s_lines_of) (defScope s_lines_of) .none kV doc pm an cdv ct) ⟨us, []⟩ = pure ((["text"] : List Str).zip us))) kV doc pm an cdv ct us hl
theorem bd_tells_empty (kV doc pm : Value) (an : Option Addr) (cdv ct : Value) (us : List Value) (hl : us.length = (["piece"] : List Str).length) : bindArgs (PySem.W.fnOf "tells_empty" "tells_empty" (defArgs s_tells_empty) (defBody s_tells_empty) (defScope s_tells_empty) .none kV doc pm an cdv ct) ⟨us, []⟩ = pure ((["piece"] : List Str).zip us) := ((fun _ _ _ _ _ _ us hl => match us, hl with | [_], _ => rfl : ∀ (kV doc pm : Value) (an : Option Addr) (cdv ct : Value) (us : List Value), us.length = (["piece"] : List Str).length → bindArgs (PySem.W.fnOf "tells_empty" "tells_empty" (defArgs s_tells_empty) (defBody s_tells_empty) (defScope s_tells_empty) .none kV doc pm an cdv ct) ⟨us, []⟩ = pure ((["piece"] : List Str).zip us))) kV doc pm an cdv ct us hl
theorem bd_tells_number (kV doc pm : Value) (an : Option Addr) (cdv ct : Value) (us : List Value) (hl : us.length = (["piece"] : List Str).length) : bindArgs (PySem.W.fnOf "tells_number" "tells_number" (defArgs s_tells_number) (defBody s_tells_number) (defScope s_tells_number) .none kV doc pm an cdv ct) ⟨us, []⟩ = pure ((["piece"] : List Str).zip us) := ((fun _ _ _ _ _ _ us hl => match us, hl with | [_], _ => rfl : ∀ (kV doc pm : Value) (an : Option Addr) (cdv ct : Value) (us : List Value), us.length = (["piece"] : List Str).length → bindArgs (PySem.W.fnOf "tells_number" "tells_number" (defArgs s_tells_number) (defBody s_tells_number) (defScope s_tells_number) .none kV doc pm an cdv ct) ⟨us, []⟩ = pure ((["piece"] : List Str).zip us))) kV doc pm an cdv ct us hl
theorem bd_tells_cell (kV doc pm : Value) (an : Option Addr) (cdv ct : Value) (us : List Value) (hl : us.length = (["piece"] : List Str).length) : bindArgs (PySem.W.fnOf "tells_cell" "tells_cell" (defArgs s_tells_cell) (defBody s_tells_cell) (defScope s_tells_cell) .none kV doc pm an cdv ct) ⟨us, []⟩ = pure ((["piece"] : List Str).zip us) := ((fun _ _ _ _ _ _ us hl => match us, hl with | [_], _ => rfl : ∀ (kV doc pm : Value) (an : Option Addr) (cdv ct : Value) (us : List Value), us.length = (["piece"] : List Str).length → bindArgs (PySem.W.fnOf "tells_cell" "tells_cell" (defArgs s_tells_cell) (defBody s_tells_cell) (defScope s_tells_cell) .none kV doc pm an cdv ct) ⟨us, []⟩ = pure ((["piece"] : List Str).zip us))) kV doc pm an cdv ct us hl
theorem bd_cell_of (kV doc pm : Value) (an : Option Addr) (cdv ct : Value) (us : List Value) (hl : us.length = (["piece"] : List Str).length) : bindArgs (PySem.W.fnOf "cell_of" "cell_of" (defArgs s_cell_of) (defBody s_cell_of) (defScope s_cell_of) .none kV doc pm an cdv ct) ⟨us, []⟩ = pure ((["piece"] : List Str).zip us) := ((fun _ _ _ _ _ _ us hl => match us, hl with | [_], _ => rfl : ∀ (kV doc pm : Value) (an : Option Addr) (cdv ct : Value) (us : List Value), us.length = (["piece"] : List Str).length → bindArgs (PySem.W.fnOf "cell_of" "cell_of" (defArgs s_cell_of) (defBody s_cell_of) (defScope s_cell_of) .none kV doc pm an cdv ct) ⟨us, []⟩ = pure ((["piece"] : List Str).zip us))) kV doc pm an cdv ct us hl
theorem bd_row_of (kV doc pm : Value) (an : Option Addr) (cdv ct : Value) (us : List Value) (hl : us.length = (["line"] : List Str).length) : bindArgs (PySem.W.fnOf "row_of" "row_of" (defArgs s_row_of) (defBody s_row_of) (defScope s_row_of) .none kV doc pm an cdv ct) ⟨us, []⟩ = pure ((["line"] : List Str).zip us) := ((fun _ _ _ _ _ _ us hl => match us, hl with | [_], _ => rfl : ∀ (kV doc pm : Value) (an : Option Addr) (cdv ct : Value) (us : List Value), us.length = (["line"] : List Str).length → bindArgs (PySem.W.fnOf "row_of" "row_of" (defArgs s_row_of) (defBody s_row_of) (defScope s_row_of) .none kV doc pm an cdv ct) ⟨us, []⟩ = pure ((["line"] : List Str).zip us))) kV doc pm an cdv ct us hl
theorem bd_text_table (kV doc pm : Value) (an : Option Addr) (cdv ct : Value) (us : List Value) (hl : us.length = (["text"] : List Str).length) : bindArgs (PySem.W.fnOf "text_table" "text_table" (defArgs s_text_table) (defBody s_text_table) (defScope s_text_table) .none kV doc pm an cdv ct) ⟨us, []⟩ = pure ((["text"] : List Str).zip us) := ((fun _ _ _ _ _ _ us hl => match us, hl with | [_], _ => rfl : ∀ (kV doc pm : Value) (an : Option Addr) (cdv ct : Value) (us : List Value), us.length = (["text"] : List Str).length → bindArgs (PySem.W.fnOf "text_table" "text_table" (defArgs s_text_table) (defBody s_text_table) (defScope s_text_table) .none kV doc pm an cdv ct) ⟨us, []⟩ = pure ((["text"] : List Str).zip us))) kV doc pm an cdv ct us hl
theorem bd_byte_fault (kV doc pm : Value) (an : Option Addr) (cdv ct : Value) (us : List Value) (hl : us.length = (["text"] : List Str).length) : bindArgs (PySem.W.fnOf "byte_fault" "byte_fault" (defArgs s_byte_fault) (defBody s_byte_fault) (defScope s_byte_fault) .none kV doc pm an cdv ct) ⟨us, []⟩ = pure ((["text"] : List Str).zip us) := ((fun _ _ _ _ _ _ us hl => match us, hl with | [_], _ => rfl : ∀ (kV doc pm : Value) (an : Option Addr) (cdv ct : Value) (us : List Value), us.length = (["text"] : List Str).length → bindArgs (PySem.W.fnOf "byte_fault" "byte_fault" (defArgs s_byte_fault) (defBody s_byte_fault) (defScope s_byte_fault) .none kV doc pm an cdv ct) ⟨us, []⟩ = pure ((["text"] : List Str).zip us))) kV doc pm an cdv ct us hl
theorem bd_quote_fault_at (kV doc pm : Value) (an : Option Addr) (cdv ct : Value) (us : List Value) (hl : us.length = (["text", "at"] : List Str).length) : bindArgs (PySem.W.fnOf "quote_fault_at" "quote_fault_at" (defArgs s_quote_fault_at) (defBody s_quote_fault_at) (defScope s_quote_fault_at) .none kV doc pm an cdv ct) ⟨us, []⟩ = pure ((["text", "at"] : List Str).zip us) := ((fun _ _ _ _ _ _ us hl => match us, hl with | [_, _], _ => rfl : ∀ (kV doc pm : Value) (an : Option Addr) (cdv ct : Value) (us : List Value), us.length = (["text", "at"] : List Str).length → bindArgs (PySem.W.fnOf "quote_fault_at" "quote_fault_at" (defArgs s_quote_fault_at) (defBody s_quote_fault_at) (defScope s_quote_fault_at) .none kV doc pm an cdv ct) ⟨us, []⟩ = pure ((["text", "at"] : List Str).zip us))) kV doc pm an cdv ct us hl
theorem bd_quote_fault (kV doc pm : Value) (an : Option Addr) (cdv ct : Value) (us : List Value) (hl : us.length = (["text"] : List Str).length) : bindArgs (PySem.W.fnOf "quote_fault" "quote_fault" (defArgs s_quote_fault) (defBody s_quote_fault) (defScope s_quote_fault) .none kV doc pm an cdv ct) ⟨us, []⟩ = pure ((["text"] : List Str).zip us) := ((fun _ _ _ _ _ _ us hl => match us, hl with | [_], _ => rfl : ∀ (kV doc pm : Value) (an : Option Addr) (cdv ct : Value) (us : List Value), us.length = (["text"] : List Str).length → bindArgs (PySem.W.fnOf "quote_fault" "quote_fault" (defArgs s_quote_fault) (defBody s_quote_fault) (defScope s_quote_fault) .none kV doc pm an cdv ct) ⟨us, []⟩ = pure ((["text"] : List Str).zip us))) kV doc pm an cdv ct us hl
theorem bd_names_fault (kV doc pm : Value) (an : Option Addr) (cdv ct : Value) (us : List Value) (hl : us.length = (["line"] : List Str).length) : bindArgs (PySem.W.fnOf "names_fault" "names_fault" (defArgs s_names_fault) (defBody s_names_fault) (defScope s_names_fault) .none kV doc pm an cdv ct) ⟨us, []⟩ = pure ((["line"] : List Str).zip us) := ((fun _ _ _ _ _ _ us hl => match us, hl with | [_], _ => rfl : ∀ (kV doc pm : Value) (an : Option Addr) (cdv ct : Value) (us : List Value), us.length = (["line"] : List Str).length → bindArgs (PySem.W.fnOf "names_fault" "names_fault" (defArgs s_names_fault) (defBody s_names_fault) (defScope s_names_fault) .none kV doc pm an cdv ct) ⟨us, []⟩ = pure ((["line"] : List Str).zip us))) kV doc pm an cdv ct us hl
theorem bd_row_fault (kV doc pm : Value) (an : Option Addr) (cdv ct : Value) (us : List Value) (hl : us.length = (["line", "row", "columns"] : List Str).length) : bindArgs (PySem.W.fnOf "row_fault" "row_fault" (defArgs s_row_fault) (defBody s_row_fault) (defScope s_row_fault) .none kV doc pm an cdv ct) ⟨us, []⟩ = pure ((["line", "row", "columns"] : List Str).zip us) := ((fun _ _ _ _ _ _ us hl => match us, hl with | [_, _, _], _ => rfl : ∀ (kV doc pm : Value) (an : Option Addr) (cdv ct : Value) (us : List Value), us.length = (["line", "row", "columns"] : List Str).length → bindArgs (PySem.W.fnOf "row_fault" "row_fault" (defArgs s_row_fault) (defBody s_row_fault) (defScope s_row_fault) .none kV doc pm an cdv ct) ⟨us, []⟩ = pure ((["line", "row", "columns"] : List Str).zip us))) kV doc pm an cdv ct us hl
theorem bd_lines_fault (kV doc pm : Value) (an : Option Addr) (cdv ct : Value) (us : List Value) (hl : us.length = (["lines"] : List Str).length) : bindArgs (PySem.W.fnOf "lines_fault" "lines_fault" (defArgs s_lines_fault) (defBody s_lines_fault) (defScope s_lines_fault) .none kV doc pm an cdv ct) ⟨us, []⟩ = pure ((["lines"] : List Str).zip us) := ((fun _ _ _ _ _ _ us hl => match us, hl with | [_], _ => rfl : ∀ (kV doc pm : Value) (an : Option Addr) (cdv ct : Value) (us : List Value), us.length = (["lines"] : List Str).length → bindArgs (PySem.W.fnOf "lines_fault" "lines_fault" (defArgs s_lines_fault) (defBody s_lines_fault) (defScope s_lines_fault) .none kV doc pm an cdv ct) ⟨us, []⟩ = pure ((["lines"] : List Str).zip us))) kV doc pm an cdv ct us hl
theorem bd_text_fault (kV doc pm : Value) (an : Option Addr) (cdv ct : Value) (us : List Value) (hl : us.length = (["text"] : List Str).length) : bindArgs (PySem.W.fnOf "text_fault" "text_fault" (defArgs s_text_fault) (defBody s_text_fault) (defScope s_text_fault) .none kV doc pm an cdv ct) ⟨us, []⟩ = pure ((["text"] : List Str).zip us) := ((fun _ _ _ _ _ _ us hl => match us, hl with | [_], _ => rfl : ∀ (kV doc pm : Value) (an : Option Addr) (cdv ct : Value) (us : List Value), us.length = (["text"] : List Str).length → bindArgs (PySem.W.fnOf "text_fault" "text_fault" (defArgs s_text_fault) (defBody s_text_fault) (defScope s_text_fault) .none kV doc pm an cdv ct) ⟨us, []⟩ = pure ((["text"] : List Str).zip us))) kV doc pm an cdv ct us hl
theorem bd_load (kV doc pm : Value) (an : Option Addr) (cdv ct : Value) (us : List Value) (hl : us.length = (["desk", "side", "text"] : List Str).length) : bindArgs (PySem.W.fnOf "load" "load" (defArgs s_load) (defBody s_load) (defScope s_load) .none kV doc pm an cdv ct) ⟨us, []⟩ = pure ((["desk", "side", "text"] : List Str).zip us) := ((fun _ _ _ _ _ _ us hl => match us, hl with | [_, _, _], _ => rfl : ∀ (kV doc pm : Value) (an : Option Addr) (cdv ct : Value) (us : List Value), us.length = (["desk", "side", "text"] : List Str).length → bindArgs (PySem.W.fnOf "load" "load" (defArgs s_load) (defBody s_load) (defScope s_load) .none kV doc pm an cdv ct) ⟨us, []⟩ = pure ((["desk", "side", "text"] : List Str).zip us))) kV doc pm an cdv ct us hl
theorem bd_take (kV doc pm : Value) (an : Option Addr) (cdv ct : Value) (us : List Value) (hl : us.length = (["desk", "side", "numbers"] : List Str).length) : bindArgs (PySem.W.fnOf "take" "take" (defArgs s_take) (defBody s_take) (defScope s_take) .none kV doc pm an cdv ct) ⟨us, []⟩ = pure ((["desk", "side", "numbers"] : List Str).zip us) := ((fun _ _ _ _ _ _ us hl => match us, hl with | [_, _, _], _ => rfl : ∀ (kV doc pm : Value) (an : Option Addr) (cdv ct : Value) (us : List Value), us.length = (["desk", "side", "numbers"] : List Str).length → bindArgs (PySem.W.fnOf "take" "take" (defArgs s_take) (defBody s_take) (defScope s_take) .none kV doc pm an cdv ct) ⟨us, []⟩ = pure ((["desk", "side", "numbers"] : List Str).zip us))) kV doc pm an cdv ct us hl
theorem bd_alike (kV doc pm : Value) (an : Option Addr) (cdv ct : Value) (us : List Value) (hl : us.length = (["desk"] : List Str).length) : bindArgs (PySem.W.fnOf "alike" "alike" (defArgs s_alike) (defBody s_alike) (defScope s_alike) .none kV doc pm an cdv ct) ⟨us, []⟩ = pure ((["desk"] : List Str).zip us) := ((fun _ _ _ _ _ _ us hl => match us, hl with | [_], _ => rfl : ∀ (kV doc pm : Value) (an : Option Addr) (cdv ct : Value) (us : List Value), us.length = (["desk"] : List Str).length → bindArgs (PySem.W.fnOf "alike" "alike" (defArgs s_alike) (defBody s_alike) (defScope s_alike) .none kV doc pm an cdv ct) ⟨us, []⟩ = pure ((["desk"] : List Str).zip us))) kV doc pm an cdv ct us hl
theorem bd_answer (kV doc pm : Value) (an : Option Addr) (cdv ct : Value) (us : List Value) (hl : us.length = (["desk", "call"] : List Str).length) : bindArgs (PySem.W.fnOf "answer" "answer" (defArgs s_answer) (defBody s_answer) (defScope s_answer) .none kV doc pm an cdv ct) ⟨us, []⟩ = pure ((["desk", "call"] : List Str).zip us) := ((fun _ _ _ _ _ _ us hl => match us, hl with | [_, _], _ => rfl : ∀ (kV doc pm : Value) (an : Option Addr) (cdv ct : Value) (us : List Value), us.length = (["desk", "call"] : List Str).length → bindArgs (PySem.W.fnOf "answer" "answer" (defArgs s_answer) (defBody s_answer) (defScope s_answer) .none kV doc pm an cdv ct) ⟨us, []⟩ = pure ((["desk", "call"] : List Str).zip us))) kV doc pm an cdv ct us hl
theorem bd_answers (kV doc pm : Value) (an : Option Addr) (cdv ct : Value) (us : List Value) (hl : us.length = (["calls"] : List Str).length) : bindArgs (PySem.W.fnOf "answers" "answers" (defArgs s_answers) (defBody s_answers) (defScope s_answers) .none kV doc pm an cdv ct) ⟨us, []⟩ = pure ((["calls"] : List Str).zip us) := ((fun _ _ _ _ _ _ us hl => match us, hl with | [_], _ => rfl : ∀ (kV doc pm : Value) (an : Option Addr) (cdv ct : Value) (us : List Value), us.length = (["calls"] : List Str).length → bindArgs (PySem.W.fnOf "answers" "answers" (defArgs s_answers) (defBody s_answers) (defScope s_answers) .none kV doc pm an cdv ct) ⟨us, []⟩ = pure ((["calls"] : List Str).zip us))) kV doc pm an cdv ct us hl
theorem cls_Call {K : PySem.W.Frag} {h : Heap} {mg : Str → Option Value} {C : Addr} {f0 : Addr} {od0 an0 : Option Addr} {sl0 : Array (Option Value)} {oc0 kV0 dc0 pm0 cd0 ct0 : Value} (X : K.In h) (G : h.Ns mainGlobals mg) (aC : PySem.W.nsIn K mainGlobals "Call" = some (some (.ref C)))
    (pg : PySem.W.plainGet K C Str.empty = true) (hd : PySem.W.hasDictIn K C = true) (po : PySem.W.plainOver K C = true) (sa : PySem.W.findIn K (.ref C) "__setattr__" = some (some (.builtin "object.__setattr__"))) (mk : PySem.W.makesIn K C = true) (kc : PySem.W.keepIn K (.ref C) = true)
    (n0 : PySem.W.findIn K (.ref C) "deed" = some none) (n1 : PySem.W.findIn K (.ref C) "heads" = some none) (n2 : PySem.W.findIn K (.ref C) "listed" = some none)
    (a0 : PySem.W.findIn K (.ref C) "__init__" = some (some (.ref f0))) (i0 : PySem.W.isFn K (.ref f0) = true) (l0 : K.lookup f0 = some ⟨oc0, od0, .func (PySem.W.fnOf "__init__" "Call.__init__" (defArgs s_Call_init) (defBody s_Call_init) (defScope s_Call_init) .none kV0 dc0 pm0 an0 cd0 ct0), sl0⟩) (c0 : PySem.W.codeIn K cd0 "Call.__init__" = true) (k0 : PySem.W.keepIn K (.ref f0) = true) :
    ∃ C : Addr, Cls K C ∧ NoAttr K C "deed" ∧ NoAttr K C "heads" ∧ NoAttr K C "listed" ∧ InitAt K mg "Call" C "Call.__init__" s_Call_init ["self", "deed", "heads", "listed"] := by
  have F0 := fun_mk (st := s_Call_init) l0 c0 k0
  have b0 := F0.binds (ps := ["self", "deed", "heads", "listed"]) fun _ _ _ _ _ _ us hl => match us, hl with | [_, _, _, _], _ => rfl
  exact ⟨C, ⟨pg, hd, po, sa⟩, n0, n1, n2, ⟨⟨f0, _, F0, ⟨mk, a0, i0, kc⟩, PySem.W.mg_of X G aC, b0⟩⟩⟩
theorem cls_Table {K : PySem.W.Frag} {h : Heap} {mg : Str → Option Value} {C : Addr} {f0 : Addr} {od0 an0 : Option Addr} {sl0 : Array (Option Value)} {oc0 kV0 dc0 pm0 cd0 ct0 : Value} (X : K.In h) (G : h.Ns mainGlobals mg) (aC : PySem.W.nsIn K mainGlobals "Table" = some (some (.ref C)))
    (pg : PySem.W.plainGet K C Str.empty = true) (hd : PySem.W.hasDictIn K C = true) (po : PySem.W.plainOver K C = true) (sa : PySem.W.findIn K (.ref C) "__setattr__" = some (some (.builtin "object.__setattr__"))) (mk : PySem.W.makesIn K C = true) (kc : PySem.W.keepIn K (.ref C) = true)
    (n0 : PySem.W.findIn K (.ref C) "names" = some none) (n1 : PySem.W.findIn K (.ref C) "rows" = some none)
    (a0 : PySem.W.findIn K (.ref C) "__init__" = some (some (.ref f0))) (i0 : PySem.W.isFn K (.ref f0) = true) (l0 : K.lookup f0 = some ⟨oc0, od0, .func (PySem.W.fnOf "__init__" "Table.__init__" (defArgs s_Table_init) (defBody s_Table_init) (defScope s_Table_init) .none kV0 dc0 pm0 an0 cd0 ct0), sl0⟩) (c0 : PySem.W.codeIn K cd0 "Table.__init__" = true) (k0 : PySem.W.keepIn K (.ref f0) = true) :
    ∃ C : Addr, Cls K C ∧ NoAttr K C "names" ∧ NoAttr K C "rows" ∧ InitAt K mg "Table" C "Table.__init__" s_Table_init ["self", "names", "rows"] := by
  have F0 := fun_mk (st := s_Table_init) l0 c0 k0
  have b0 := F0.binds (ps := ["self", "names", "rows"]) fun _ _ _ _ _ _ us hl => match us, hl with | [_, _, _], _ => rfl
  exact ⟨C, ⟨pg, hd, po, sa⟩, n0, n1, ⟨⟨f0, _, F0, ⟨mk, a0, i0, kc⟩, PySem.W.mg_of X G aC, b0⟩⟩⟩
theorem cls_Taker {K : PySem.W.Frag} {h : Heap} {mg : Str → Option Value} {C : Addr} {f0 : Addr} {od0 an0 : Option Addr} {sl0 : Array (Option Value)} {oc0 kV0 dc0 pm0 cd0 ct0 : Value} {f1 : Addr} {od1 an1 : Option Addr} {sl1 : Array (Option Value)} {oc1 kV1 dc1 pm1 cd1 ct1 : Value} {f2 : Addr} {od2 an2 : Option Addr} {sl2 : Array (Option Value)} {oc2 kV2 dc2 pm2 cd2 ct2 : Value} {f3 : Addr} {od3 an3 : Option Addr} {sl3 : Array (Option Value)} {oc3 kV3 dc3 pm3 cd3 ct3 : Value} {f4 : Addr} {od4 an4 : Option Addr} {sl4 : Array (Option Value)} {oc4 kV4 dc4 pm4 cd4 ct4 : Value} {f5 : Addr} {od5 an5 : Option Addr} {sl5 : Array (Option Value)} {oc5 kV5 dc5 pm5 cd5 ct5 : Value} {f6 : Addr} {od6 an6 : Option Addr} {sl6 : Array (Option Value)} {oc6 kV6 dc6 pm6 cd6 ct6 : Value} (X : K.In h) (G : h.Ns mainGlobals mg) (aC : PySem.W.nsIn K mainGlobals "Taker" = some (some (.ref C)))
    (pg : PySem.W.plainGet K C Str.empty = true) (hd : PySem.W.hasDictIn K C = true) (po : PySem.W.plainOver K C = true) (sa : PySem.W.findIn K (.ref C) "__setattr__" = some (some (.builtin "object.__setattr__"))) (mk : PySem.W.makesIn K C = true) (kc : PySem.W.keepIn K (.ref C) = true)
    (n0 : PySem.W.findIn K (.ref C) "numbers" = some none) (n1 : PySem.W.findIn K (.ref C) "at" = some none) (n2 : PySem.W.findIn K (.ref C) "good" = some none)
    (a0 : PySem.W.findIn K (.ref C) "__init__" = some (some (.ref f0))) (i0 : PySem.W.isFn K (.ref f0) = true) (l0 : K.lookup f0 = some ⟨oc0, od0, .func (PySem.W.fnOf "__init__" "Taker.__init__" (defArgs s_Taker_init) (defBody s_Taker_init) (defScope s_Taker_init) .none kV0 dc0 pm0 an0 cd0 ct0), sl0⟩) (c0 : PySem.W.codeIn K cd0 "Taker.__init__" = true) (k0 : PySem.W.keepIn K (.ref f0) = true)
    (a1 : PySem.W.findIn K (.ref C) "number" = some (some (.ref f1))) (i1 : PySem.W.isFn K (.ref f1) = true) (l1 : K.lookup f1 = some ⟨oc1, od1, .func (PySem.W.fnOf "number" "Taker.number" (defArgs s_Taker_number) (defBody s_Taker_number) (defScope s_Taker_number) .none kV1 dc1 pm1 an1 cd1 ct1), sl1⟩) (c1 : PySem.W.codeIn K cd1 "Taker.number" = true) (k1 : PySem.W.keepIn K (.ref f1) = true)
    (a2 : PySem.W.findIn K (.ref C) "word" = some (some (.ref f2))) (i2 : PySem.W.isFn K (.ref f2) = true) (l2 : K.lookup f2 = some ⟨oc2, od2, .func (PySem.W.fnOf "word" "Taker.word" (defArgs s_Taker_word) (defBody s_Taker_word) (defScope s_Taker_word) .none kV2 dc2 pm2 an2 cd2 ct2), sl2⟩) (c2 : PySem.W.codeIn K cd2 "Taker.word" = true) (k2 : PySem.W.keepIn K (.ref f2) = true)
    (a3 : PySem.W.findIn K (.ref C) "cell" = some (some (.ref f3))) (i3 : PySem.W.isFn K (.ref f3) = true) (l3 : K.lookup f3 = some ⟨oc3, od3, .func (PySem.W.fnOf "cell" "Taker.cell" (defArgs s_Taker_cell) (defBody s_Taker_cell) (defScope s_Taker_cell) .none kV3 dc3 pm3 an3 cd3 ct3), sl3⟩) (c3 : PySem.W.codeIn K cd3 "Taker.cell" = true) (k3 : PySem.W.keepIn K (.ref f3) = true)
    (a4 : PySem.W.findIn K (.ref C) "headings" = some (some (.ref f4))) (i4 : PySem.W.isFn K (.ref f4) = true) (l4 : K.lookup f4 = some ⟨oc4, od4, .func (PySem.W.fnOf "headings" "Taker.headings" (defArgs s_Taker_headings) (defBody s_Taker_headings) (defScope s_Taker_headings) .none kV4 dc4 pm4 an4 cd4 ct4), sl4⟩) (c4 : PySem.W.codeIn K cd4 "Taker.headings" = true) (k4 : PySem.W.keepIn K (.ref f4) = true)
    (a5 : PySem.W.findIn K (.ref C) "row" = some (some (.ref f5))) (i5 : PySem.W.isFn K (.ref f5) = true) (l5 : K.lookup f5 = some ⟨oc5, od5, .func (PySem.W.fnOf "row" "Taker.row" (defArgs s_Taker_row) (defBody s_Taker_row) (defScope s_Taker_row) .none kV5 dc5 pm5 an5 cd5 ct5), sl5⟩) (c5 : PySem.W.codeIn K cd5 "Taker.row" = true) (k5 : PySem.W.keepIn K (.ref f5) = true)
    (a6 : PySem.W.findIn K (.ref C) "whole" = some (some (.ref f6))) (i6 : PySem.W.isFn K (.ref f6) = true) (l6 : K.lookup f6 = some ⟨oc6, od6, .func (PySem.W.fnOf "whole" "Taker.whole" (defArgs s_Taker_whole) (defBody s_Taker_whole) (defScope s_Taker_whole) .none kV6 dc6 pm6 an6 cd6 ct6), sl6⟩) (c6 : PySem.W.codeIn K cd6 "Taker.whole" = true) (k6 : PySem.W.keepIn K (.ref f6) = true) :
    ∃ C : Addr, Cls K C ∧ NoAttr K C "numbers" ∧ NoAttr K C "at" ∧ NoAttr K C "good" ∧ InitAt K mg "Taker" C "Taker.__init__" s_Taker_init ["self", "numbers"] ∧ MethAt K C "number" "Taker.number" s_Taker_number ["self", "least", "most"] ∧ MethAt K C "word" "Taker.word" s_Taker_word ["self"] ∧ MethAt K C "cell" "Taker.cell" s_Taker_cell ["self"] ∧ MethAt K C "headings" "Taker.headings" s_Taker_headings ["self"] ∧ MethAt K C "row" "Taker.row" s_Taker_row ["self", "columns"] ∧ MethAt K C "whole" "Taker.whole" s_Taker_whole ["self"] := by
  have F0 := fun_mk (st := s_Taker_init) l0 c0 k0
  have b0 := F0.binds (ps := ["self", "numbers"]) fun _ _ _ _ _ _ us hl => match us, hl with | [_, _], _ => rfl
  have F1 := fun_mk (st := s_Taker_number) l1 c1 k1
  have b1 := F1.binds (ps := ["self", "least", "most"]) fun _ _ _ _ _ _ us hl => match us, hl with | [_, _, _], _ => rfl
  have F2 := fun_mk (st := s_Taker_word) l2 c2 k2
  have b2 := F2.binds (ps := ["self"]) fun _ _ _ _ _ _ us hl => match us, hl with | [_], _ => rfl
  have F3 := fun_mk (st := s_Taker_cell) l3 c3 k3
  have b3 := F3.binds (ps := ["self"]) fun _ _ _ _ _ _ us hl => match us, hl with | [_], _ => rfl
  have F4 := fun_mk (st := s_Taker_headings) l4 c4 k4
  have b4 := F4.binds (ps := ["self"]) fun _ _ _ _ _ _ us hl => match us, hl with | [_], _ => rfl
  have F5 := fun_mk (st := s_Taker_row) l5 c5 k5
  have b5 := F5.binds (ps := ["self", "columns"]) fun _ _ _ _ _ _ us hl => match us, hl with | [_, _], _ => rfl
  have F6 := fun_mk (st := s_Taker_whole) l6 c6 k6
  have b6 := F6.binds (ps := ["self"]) fun _ _ _ _ _ _ us hl => match us, hl with | [_], _ => rfl
  exact ⟨C, ⟨pg, hd, po, sa⟩, n0, n1, n2, ⟨⟨f0, _, F0, ⟨mk, a0, i0, kc⟩, PySem.W.mg_of X G aC, b0⟩⟩, ⟨⟨f1, _, F1, ⟨a1, i1, k1⟩, b1⟩⟩, ⟨⟨f2, _, F2, ⟨a2, i2, k2⟩, b2⟩⟩, ⟨⟨f3, _, F3, ⟨a3, i3, k3⟩, b3⟩⟩, ⟨⟨f4, _, F4, ⟨a4, i4, k4⟩, b4⟩⟩, ⟨⟨f5, _, F5, ⟨a5, i5, k5⟩, b5⟩⟩, ⟨⟨f6, _, F6, ⟨a6, i6, k6⟩, b6⟩⟩⟩
theorem cls_Piece {K : PySem.W.Frag} {h : Heap} {mg : Str → Option Value} {C : Addr} {f0 : Addr} {od0 an0 : Option Addr} {sl0 : Array (Option Value)} {oc0 kV0 dc0 pm0 cd0 ct0 : Value} (X : K.In h) (G : h.Ns mainGlobals mg) (aC : PySem.W.nsIn K mainGlobals "Piece" = some (some (.ref C)))
    (pg : PySem.W.plainGet K C Str.empty = true) (hd : PySem.W.hasDictIn K C = true) (po : PySem.W.plainOver K C = true) (sa : PySem.W.findIn K (.ref C) "__setattr__" = some (some (.builtin "object.__setattr__"))) (mk : PySem.W.makesIn K C = true) (kc : PySem.W.keepIn K (.ref C) = true)
    (n0 : PySem.W.findIn K (.ref C) "place" = some none) (n1 : PySem.W.findIn K (.ref C) "said" = some none) (n2 : PySem.W.findIn K (.ref C) "quoted" = some none)
    (a0 : PySem.W.findIn K (.ref C) "__init__" = some (some (.ref f0))) (i0 : PySem.W.isFn K (.ref f0) = true) (l0 : K.lookup f0 = some ⟨oc0, od0, .func (PySem.W.fnOf "__init__" "Piece.__init__" (defArgs s_Piece_init) (defBody s_Piece_init) (defScope s_Piece_init) .none kV0 dc0 pm0 an0 cd0 ct0), sl0⟩) (c0 : PySem.W.codeIn K cd0 "Piece.__init__" = true) (k0 : PySem.W.keepIn K (.ref f0) = true) :
    ∃ C : Addr, Cls K C ∧ NoAttr K C "place" ∧ NoAttr K C "said" ∧ NoAttr K C "quoted" ∧ InitAt K mg "Piece" C "Piece.__init__" s_Piece_init ["self", "place", "said", "quoted"] := by
  have F0 := fun_mk (st := s_Piece_init) l0 c0 k0
  have b0 := F0.binds (ps := ["self", "place", "said", "quoted"]) fun _ _ _ _ _ _ us hl => match us, hl with | [_, _, _, _], _ => rfl
  exact ⟨C, ⟨pg, hd, po, sa⟩, n0, n1, n2, ⟨⟨f0, _, F0, ⟨mk, a0, i0, kc⟩, PySem.W.mg_of X G aC, b0⟩⟩⟩
theorem cls_Desk {K : PySem.W.Frag} {h : Heap} {mg : Str → Option Value} {C : Addr} {f0 : Addr} {od0 an0 : Option Addr} {sl0 : Array (Option Value)} {oc0 kV0 dc0 pm0 cd0 ct0 : Value} {f1 : Addr} {od1 an1 : Option Addr} {sl1 : Array (Option Value)} {oc1 kV1 dc1 pm1 cd1 ct1 : Value} {f2 : Addr} {od2 an2 : Option Addr} {sl2 : Array (Option Value)} {oc2 kV2 dc2 pm2 cd2 ct2 : Value} (X : K.In h) (G : h.Ns mainGlobals mg) (aC : PySem.W.nsIn K mainGlobals "Desk" = some (some (.ref C)))
    (pg : PySem.W.plainGet K C Str.empty = true) (hd : PySem.W.hasDictIn K C = true) (po : PySem.W.plainOver K C = true) (sa : PySem.W.findIn K (.ref C) "__setattr__" = some (some (.builtin "object.__setattr__"))) (mk : PySem.W.makesIn K C = true) (kc : PySem.W.keepIn K (.ref C) = true)
    (n0 : PySem.W.findIn K (.ref C) "sides" = some none)
    (a0 : PySem.W.findIn K (.ref C) "__init__" = some (some (.ref f0))) (i0 : PySem.W.isFn K (.ref f0) = true) (l0 : K.lookup f0 = some ⟨oc0, od0, .func (PySem.W.fnOf "__init__" "Desk.__init__" (defArgs s_Desk_init) (defBody s_Desk_init) (defScope s_Desk_init) .none kV0 dc0 pm0 an0 cd0 ct0), sl0⟩) (c0 : PySem.W.codeIn K cd0 "Desk.__init__" = true) (k0 : PySem.W.keepIn K (.ref f0) = true)
    (a1 : PySem.W.findIn K (.ref C) "table" = some (some (.ref f1))) (i1 : PySem.W.isFn K (.ref f1) = true) (l1 : K.lookup f1 = some ⟨oc1, od1, .func (PySem.W.fnOf "table" "Desk.table" (defArgs s_Desk_table) (defBody s_Desk_table) (defScope s_Desk_table) .none kV1 dc1 pm1 an1 cd1 ct1), sl1⟩) (c1 : PySem.W.codeIn K cd1 "Desk.table" = true) (k1 : PySem.W.keepIn K (.ref f1) = true)
    (a2 : PySem.W.findIn K (.ref C) "keep" = some (some (.ref f2))) (i2 : PySem.W.isFn K (.ref f2) = true) (l2 : K.lookup f2 = some ⟨oc2, od2, .func (PySem.W.fnOf "keep" "Desk.keep" (defArgs s_Desk_keep) (defBody s_Desk_keep) (defScope s_Desk_keep) .none kV2 dc2 pm2 an2 cd2 ct2), sl2⟩) (c2 : PySem.W.codeIn K cd2 "Desk.keep" = true) (k2 : PySem.W.keepIn K (.ref f2) = true) :
    ∃ C : Addr, Cls K C ∧ NoAttr K C "sides" ∧ InitAt K mg "Desk" C "Desk.__init__" s_Desk_init ["self"] ∧ MethAt K C "table" "Desk.table" s_Desk_table ["self", "side"] ∧ MethAt K C "keep" "Desk.keep" s_Desk_keep ["self", "side", "table"] := by
  have F0 := fun_mk (st := s_Desk_init) l0 c0 k0
  have b0 := F0.binds (ps := ["self"]) fun _ _ _ _ _ _ us hl => match us, hl with | [_], _ => rfl
  have F1 := fun_mk (st := s_Desk_table) l1 c1 k1
  have b1 := F1.binds (ps := ["self", "side"]) fun _ _ _ _ _ _ us hl => match us, hl with | [_, _], _ => rfl
  have F2 := fun_mk (st := s_Desk_keep) l2 c2 k2
  have b2 := F2.binds (ps := ["self", "side", "table"]) fun _ _ _ _ _ _ us hl => match us, hl with | [_, _, _], _ => rfl
  exact ⟨C, ⟨pg, hd, po, sa⟩, n0, ⟨⟨f0, _, F0, ⟨mk, a0, i0, kc⟩, PySem.W.mg_of X G aC, b0⟩⟩, ⟨⟨f1, _, F1, ⟨a1, i1, k1⟩, b1⟩⟩, ⟨⟨f2, _, F2, ⟨a2, i2, k2⟩, b2⟩⟩⟩
theorem tops_mk {K : PySem.W.Frag} {h : Heap} {mg : Str → Option Value} (X : K.In h) (G : h.Ns mainGlobals mg)
    (b_all : PySem.W.nsIn K mainGlobals "all" = some none)
    (b_any : PySem.W.nsIn K mainGlobals "any" = some none)
    (b_len : PySem.W.nsIn K mainGlobals "len" = some none)
    (b_list : PySem.W.nsIn K mainGlobals "list" = some none)
    (b_max : PySem.W.nsIn K mainGlobals "max" = some none)
    (b_min : PySem.W.nsIn K mainGlobals "min" = some none)
    (b_range : PySem.W.nsIn K mainGlobals "range" = some none)
    (b_sorted : PySem.W.nsIn K mainGlobals "sorted" = some none)
    (b_sum : PySem.W.nsIn K mainGlobals "sum" = some none)
    (b_tuple : PySem.W.nsIn K mainGlobals "tuple" = some none)
    (c_LINE_END : ∃ u, mg "LINE_END" = some (.int 10 u))
    (c_QUOTES : ∃ u, mg "QUOTES" = some (.int 34 u))
    (c_COMMA : ∃ u, mg "COMMA" = some (.int 44 u))
    (c_MINUS : ∃ u, mg "MINUS" = some (.int 45 u))
    (c_ZERO : ∃ u, mg "ZERO" = some (.int 48 u))
    (c_LIMIT : ∃ u, mg "LIMIT" = some (.int 1000000 u))
    (c_MOST_COLUMNS : ∃ u, mg "MOST_COLUMNS" = some (.int 5 u))
    (c_MOST_ROWS : ∃ u, mg "MOST_ROWS" = some (.int 12 u))
    (c_MOST_BYTES : ∃ u, mg "MOST_BYTES" = some (.int 1000 u))
    (t_EMPTY : ∃ p : Addr, mg "EMPTY" = some (.ref p) ∧ ∀ H, SqT K H p [.int 0])
    (t_NEVER : ∃ p : Addr, mg "NEVER" = some (.ref p) ∧ ∀ H, SqT K H p [.int (-1), .int (-1)])
    (t_NO_FAULT : ∃ p : Addr, mg "NO_FAULT" = some (.ref p) ∧ ∀ H, SqT K H p [.int 0, .int 0])
    (t_HEADS : ∃ p : Addr, mg "HEADS" = some (.ref p) ∧ ∀ H, SqT K H p [.int 1, .int 1, .int 1, .int 1, .int 3, .int 2, .int 1, .int 1, .int 1, .int 1, .int 0])
    (t_LISTS : ∃ p : Addr, mg "LISTS" = some (.ref p) ∧ ∀ H, SqT K H p [.bl true, .bl true, .bl false, .bl false, .bl false, .bl false, .bl true, .bl true, .bl false, .bl true, .bl false])
    (f_heads_end : DefAt K mg "heads_end" s_heads_end ["calls", "at"])
    (f_call_end : DefAt K mg "call_end" s_call_end ["calls", "at"])
    (f_call_at : DefAt K mg "call_at" s_call_at ["calls", "at"])
    (f_cut : DefAt K mg "cut" s_cut ["calls"])
    (f_is_digit : DefAt K mg "is_digit" s_is_digit ["byte"])
    (f_is_small : DefAt K mg "is_small" s_is_small ["byte"])
    (f_is_seen : DefAt K mg "is_seen" s_is_seen ["byte"])
    (f_is_word : DefAt K mg "is_word" s_is_word ["said"])
    (f_is_name : DefAt K mg "is_name" s_is_name ["said"])
    (f_digits_from : DefAt K mg "digits_from" s_digits_from ["said"])
    (f_is_number_text : DefAt K mg "is_number_text" s_is_number_text ["said"])
    (f_number_of : DefAt K mg "number_of" s_number_of ["said"])
    (f_digits : DefAt K mg "digits" s_digits ["number"])
    (f_decimal : DefAt K mg "decimal" s_decimal ["number"])
    (f_number_cell : DefAt K mg "number_cell" s_number_cell ["number"])
    (f_word_cell : DefAt K mg "word_cell" s_word_cell ["said"])
    (f_in_limits : DefAt K mg "in_limits" s_in_limits ["number"])
    (f_told_bytes : DefAt K mg "told_bytes" s_told_bytes ["said"])
    (f_told_cell : DefAt K mg "told_cell" s_told_cell ["cell"])
    (f_needs_quotes : DefAt K mg "needs_quotes" s_needs_quotes ["said"])
    (f_in_quotes : DefAt K mg "in_quotes" s_in_quotes ["said"])
    (f_shown_cell : DefAt K mg "shown_cell" s_shown_cell ["cell"])
    (f_is_column : DefAt K mg "is_column" s_is_column ["table", "column"])
    (f_columns_good : DefAt K mg "columns_good" s_columns_good ["table", "columns"])
    (f_column_cells : DefAt K mg "column_cells" s_column_cells ["table", "column"])
    (f_numbers_of : DefAt K mg "numbers_of" s_numbers_of ["cells"])
    (f_words_of : DefAt K mg "words_of" s_words_of ["cells"])
    (f_kind_of : DefAt K mg "kind_of" s_kind_of ["cells"])
    (f_how_many_empty : DefAt K mg "how_many_empty" s_how_many_empty ["cells"])
    (f_how_many_unlike : DefAt K mg "how_many_unlike" s_how_many_unlike ["cells"])
    (f_column_told : DefAt K mg "column_told" s_column_told ["table", "column"])
    (f_found : DefAt K mg "found" s_found ["table", "cell"])
    (f_alike_in : DefAt K mg "alike_in" s_alike_in ["one", "other", "columns"])
    (f_earlier : DefAt K mg "earlier" s_earlier ["table", "columns", "row"])
    (f_twice : DefAt K mg "twice" s_twice ["table", "columns"])
    (f_is_key : DefAt K mg "is_key" s_is_key ["table", "columns"])
    (f_columns_in : DefAt K mg "columns_in" s_columns_in ["many", "bits"])
    (f_column_sets : DefAt K mg "column_sets" s_column_sets ["many"])
    (f_is_part : DefAt K mg "is_part" s_is_part ["some", "columns"])
    (f_least_keys : DefAt K mg "least_keys" s_least_keys ["table"])
    (f_picked : DefAt K mg "picked" s_picked ["row", "columns"])
    (f_ordered_rows : DefAt K mg "ordered_rows" s_ordered_rows ["table", "columns"])
    (f_same_rows : DefAt K mg "same_rows" s_same_rows ["ones", "others"])
    (f_rows_by_names : DefAt K mg "rows_by_names" s_rows_by_names ["table", "names"])
    (f_how_alike : DefAt K mg "how_alike" s_how_alike ["one", "other"])
    (f_shown_line : DefAt K mg "shown_line" s_shown_line ["parts"])
    (f_shown_table : DefAt K mg "shown_table" s_shown_table ["table"])
    (f_told_table : DefAt K mg "told_table" s_told_table ["table"])
    (f_names_good : DefAt K mg "names_good" s_names_good ["said"])
    (f_taken_cell : DefAt K mg "taken_cell" s_taken_cell ["numbers"])
    (f_taken_table : DefAt K mg "taken_table" s_taken_table ["numbers"])
    (f_counted : DefAt K mg "counted" s_counted ["numbers"])
    (f_ask_cell : DefAt K mg "ask_cell" s_ask_cell ["table", "row", "column"])
    (f_ask_column : DefAt K mg "ask_column" s_ask_column ["table", "column"])
    (f_ask_find : DefAt K mg "ask_find" s_ask_find ["table", "numbers"])
    (f_ask_key : DefAt K mg "ask_key" s_ask_key ["table", "columns"])
    (f_ask_keys : DefAt K mg "ask_keys" s_ask_keys ["table"])
    (f_ask_sorted : DefAt K mg "ask_sorted" s_ask_sorted ["table", "columns"])
    (f_asked : DefAt K mg "asked" s_asked ["table", "call"])
    (f_opens : DefAt K mg "opens" s_opens ["text", "at"])
    (f_parts_cells : DefAt K mg "parts_cells" s_parts_cells ["byte"])
    (f_bare_end : DefAt K mg "bare_end" s_bare_end ["text", "at"])
    (f_closing : DefAt K mg "closing" s_closing ["text", "at"])
    (f_cell_end : DefAt K mg "cell_end" s_cell_end ["text", "at"])
    (f_goes_on : DefAt K mg "goes_on" s_goes_on ["text", "end"])
    (f_starts : DefAt K mg "starts" s_starts ["text"])
    (f_quoted_bytes : DefAt K mg "quoted_bytes" s_quoted_bytes ["text", "at", "close"])
    (f_piece_at : DefAt K mg "piece_at" s_piece_at ["text", "at"])
    (f_lines_of : DefAt K mg "lines_of" s_lines_of ["text"])
    (f_tells_empty : DefAt K mg "tells_empty" s_tells_empty ["piece"])
    (f_tells_number : DefAt K mg "tells_number" s_tells_number ["piece"])
    (f_tells_cell : DefAt K mg "tells_cell" s_tells_cell ["piece"])
    (f_cell_of : DefAt K mg "cell_of" s_cell_of ["piece"])
    (f_row_of : DefAt K mg "row_of" s_row_of ["line"])
    (f_text_table : DefAt K mg "text_table" s_text_table ["text"])
    (f_byte_fault : DefAt K mg "byte_fault" s_byte_fault ["text"])
    (f_quote_fault_at : DefAt K mg "quote_fault_at" s_quote_fault_at ["text", "at"])
    (f_quote_fault : DefAt K mg "quote_fault" s_quote_fault ["text"])
    (f_names_fault : DefAt K mg "names_fault" s_names_fault ["line"])
    (f_row_fault : DefAt K mg "row_fault" s_row_fault ["line", "row", "columns"])
    (f_lines_fault : DefAt K mg "lines_fault" s_lines_fault ["lines"])
    (f_text_fault : DefAt K mg "text_fault" s_text_fault ["text"])
    (f_load : DefAt K mg "load" s_load ["desk", "side", "text"])
    (f_take : DefAt K mg "take" s_take ["desk", "side", "numbers"])
    (f_alike : DefAt K mg "alike" s_alike ["desk"])
    (f_answer : DefAt K mg "answer" s_answer ["desk", "call"])
    (f_answers : DefAt K mg "answers" s_answers ["calls"])
    (k_Call : ∃ C : Addr, Cls K C ∧ NoAttr K C "deed" ∧ NoAttr K C "heads" ∧ NoAttr K C "listed" ∧ InitAt K mg "Call" C "Call.__init__" s_Call_init ["self", "deed", "heads", "listed"])
    (k_Table : ∃ C : Addr, Cls K C ∧ NoAttr K C "names" ∧ NoAttr K C "rows" ∧ InitAt K mg "Table" C "Table.__init__" s_Table_init ["self", "names", "rows"])
    (k_Taker : ∃ C : Addr, Cls K C ∧ NoAttr K C "numbers" ∧ NoAttr K C "at" ∧ NoAttr K C "good" ∧ InitAt K mg "Taker" C "Taker.__init__" s_Taker_init ["self", "numbers"] ∧ MethAt K C "number" "Taker.number" s_Taker_number ["self", "least", "most"] ∧ MethAt K C "word" "Taker.word" s_Taker_word ["self"] ∧ MethAt K C "cell" "Taker.cell" s_Taker_cell ["self"] ∧ MethAt K C "headings" "Taker.headings" s_Taker_headings ["self"] ∧ MethAt K C "row" "Taker.row" s_Taker_row ["self", "columns"] ∧ MethAt K C "whole" "Taker.whole" s_Taker_whole ["self"])
    (k_Piece : ∃ C : Addr, Cls K C ∧ NoAttr K C "place" ∧ NoAttr K C "said" ∧ NoAttr K C "quoted" ∧ InitAt K mg "Piece" C "Piece.__init__" s_Piece_init ["self", "place", "said", "quoted"])
    (k_Desk : ∃ C : Addr, Cls K C ∧ NoAttr K C "sides" ∧ InitAt K mg "Desk" C "Desk.__init__" s_Desk_init ["self"] ∧ MethAt K C "table" "Desk.table" s_Desk_table ["self", "side"] ∧ MethAt K C "keep" "Desk.keep" s_Desk_keep ["self", "side", "table"])
    : ∃ ad : Ads, Tops K mg ad := by
  obtain ⟨p_EMPTY, c_EMPTY, d_EMPTY⟩ := t_EMPTY
  obtain ⟨p_NEVER, c_NEVER, d_NEVER⟩ := t_NEVER
  obtain ⟨p_NO_FAULT, c_NO_FAULT, d_NO_FAULT⟩ := t_NO_FAULT
  obtain ⟨p_HEADS, c_HEADS, d_HEADS⟩ := t_HEADS
  obtain ⟨p_LISTS, c_LISTS, d_LISTS⟩ := t_LISTS
  obtain ⟨p_Call, k_Call, a_Call_deed, a_Call_heads, a_Call_listed, i_Call⟩ := k_Call
  obtain ⟨p_Table, k_Table, a_Table_names, a_Table_rows, i_Table⟩ := k_Table
  obtain ⟨p_Taker, k_Taker, a_Taker_numbers, a_Taker_at, a_Taker_good, i_Taker, m_Taker_number, m_Taker_word, m_Taker_cell, m_Taker_headings, m_Taker_row, m_Taker_whole⟩ := k_Taker
  obtain ⟨p_Piece, k_Piece, a_Piece_place, a_Piece_said, a_Piece_quoted, i_Piece⟩ := k_Piece
  obtain ⟨p_Desk, k_Desk, a_Desk_sides, i_Desk, m_Desk_table, m_Desk_keep⟩ := k_Desk
  refine ⟨⟨p_EMPTY, p_NEVER, p_NO_FAULT, p_HEADS, p_LISTS, p_Call, p_Table, p_Taker, p_Piece, p_Desk⟩, ?_⟩
  exact {
    b_all := PySem.W.mg_none_of X G b_all
    b_any := PySem.W.mg_none_of X G b_any
    b_len := PySem.W.mg_none_of X G b_len
    b_list := PySem.W.mg_none_of X G b_list
    b_max := PySem.W.mg_none_of X G b_max
    b_min := PySem.W.mg_none_of X G b_min
    b_range := PySem.W.mg_none_of X G b_range
    b_sorted := PySem.W.mg_none_of X G b_sorted
    b_sum := PySem.W.mg_none_of X G b_sum
    b_tuple := PySem.W.mg_none_of X G b_tuple
    c_LINE_END := c_LINE_END
    c_QUOTES := c_QUOTES
    c_COMMA := c_COMMA
    c_MINUS := c_MINUS
    c_ZERO := c_ZERO
    c_LIMIT := c_LIMIT
    c_MOST_COLUMNS := c_MOST_COLUMNS
    c_MOST_ROWS := c_MOST_ROWS
    c_MOST_BYTES := c_MOST_BYTES
    c_EMPTY := c_EMPTY
    d_EMPTY := d_EMPTY
    c_NEVER := c_NEVER
    d_NEVER := d_NEVER
    c_NO_FAULT := c_NO_FAULT
    d_NO_FAULT := d_NO_FAULT
    c_HEADS := c_HEADS
    d_HEADS := d_HEADS
    c_LISTS := c_LISTS
    d_LISTS := d_LISTS
    f_heads_end := f_heads_end
    f_call_end := f_call_end
    f_call_at := f_call_at
    f_cut := f_cut
    f_is_digit := f_is_digit
    f_is_small := f_is_small
    f_is_seen := f_is_seen
    f_is_word := f_is_word
    f_is_name := f_is_name
    f_digits_from := f_digits_from
    f_is_number_text := f_is_number_text
    f_number_of := f_number_of
    f_digits := f_digits
    f_decimal := f_decimal
    f_number_cell := f_number_cell
    f_word_cell := f_word_cell
    f_in_limits := f_in_limits
    f_told_bytes := f_told_bytes
    f_told_cell := f_told_cell
    f_needs_quotes := f_needs_quotes
    f_in_quotes := f_in_quotes
    f_shown_cell := f_shown_cell
    f_is_column := f_is_column
    f_columns_good := f_columns_good
    f_column_cells := f_column_cells
    f_numbers_of := f_numbers_of
    f_words_of := f_words_of
    f_kind_of := f_kind_of
    f_how_many_empty := f_how_many_empty
    f_how_many_unlike := f_how_many_unlike
    f_column_told := f_column_told
    f_found := f_found
    f_alike_in := f_alike_in
    f_earlier := f_earlier
    f_twice := f_twice
    f_is_key := f_is_key
    f_columns_in := f_columns_in
    f_column_sets := f_column_sets
    f_is_part := f_is_part
    f_least_keys := f_least_keys
    f_picked := f_picked
    f_ordered_rows := f_ordered_rows
    f_same_rows := f_same_rows
    f_rows_by_names := f_rows_by_names
    f_how_alike := f_how_alike
    f_shown_line := f_shown_line
    f_shown_table := f_shown_table
    f_told_table := f_told_table
    f_names_good := f_names_good
    f_taken_cell := f_taken_cell
    f_taken_table := f_taken_table
    f_counted := f_counted
    f_ask_cell := f_ask_cell
    f_ask_column := f_ask_column
    f_ask_find := f_ask_find
    f_ask_key := f_ask_key
    f_ask_keys := f_ask_keys
    f_ask_sorted := f_ask_sorted
    f_asked := f_asked
    f_opens := f_opens
    f_parts_cells := f_parts_cells
    f_bare_end := f_bare_end
    f_closing := f_closing
    f_cell_end := f_cell_end
    f_goes_on := f_goes_on
    f_starts := f_starts
    f_quoted_bytes := f_quoted_bytes
    f_piece_at := f_piece_at
    f_lines_of := f_lines_of
    f_tells_empty := f_tells_empty
    f_tells_number := f_tells_number
    f_tells_cell := f_tells_cell
    f_cell_of := f_cell_of
    f_row_of := f_row_of
    f_text_table := f_text_table
    f_byte_fault := f_byte_fault
    f_quote_fault_at := f_quote_fault_at
    f_quote_fault := f_quote_fault
    f_names_fault := f_names_fault
    f_row_fault := f_row_fault
    f_lines_fault := f_lines_fault
    f_text_fault := f_text_fault
    f_load := f_load
    f_take := f_take
    f_alike := f_alike
    f_answer := f_answer
    f_answers := f_answers
    k_Call := k_Call
    a_Call_deed := a_Call_deed
    a_Call_heads := a_Call_heads
    a_Call_listed := a_Call_listed
    i_Call := i_Call
    k_Table := k_Table
    a_Table_names := a_Table_names
    a_Table_rows := a_Table_rows
    i_Table := i_Table
    k_Taker := k_Taker
    a_Taker_numbers := a_Taker_numbers
    a_Taker_at := a_Taker_at
    a_Taker_good := a_Taker_good
    i_Taker := i_Taker
    m_Taker_number := m_Taker_number
    m_Taker_word := m_Taker_word
    m_Taker_cell := m_Taker_cell
    m_Taker_headings := m_Taker_headings
    m_Taker_row := m_Taker_row
    m_Taker_whole := m_Taker_whole
    k_Piece := k_Piece
    a_Piece_place := a_Piece_place
    a_Piece_said := a_Piece_said
    a_Piece_quoted := a_Piece_quoted
    i_Piece := i_Piece
    k_Desk := k_Desk
    a_Desk_sides := a_Desk_sides
    i_Desk := i_Desk
    m_Desk_table := m_Desk_table
    m_Desk_keep := m_Desk_keep
  }
/-- the promise of answers, by the fragment -/
abbrev spAns (K : PySem.W.Frag) : Sp := spL (A1 fun (x : List Int × List CallR) v H => isL K x.1 v H ∧ x.1 = x.2.flatMap putC ∧ (∀ c ∈ x.2, okC c) ∧ x.2.length ≤ 60) fun x => (PyFlat.told (playL Vatdfa.start x.2)).map V.int
theorem fin_f {P : Program} {w : World} {K : PySem.W.Frag} {mg : Str → Option Value} {fa : Addr} (hfa : mg "answers" = some (.ref fa)) (T : ∃ ad : Ads, Tops K mg ad) :
    ∃ fd : FuncData, (∀ (s : Shared) (us : List Value), us.length = (["calls"] : List Str).length → BindsTo s fd ⟨us, []⟩ ((["calls"] : List Str).zip us)) ∧ ∀ base : Heap, K.In base → base.Ns mainGlobals mg → FnOk P w K mg base CX0 10 fa fd ["calls"] (spAns K) := by
  obtain ⟨ad, T⟩ := T
  obtain ⟨f, fd, F, hm, _⟩ := T.f_answers.ex
  have e := hfa.symm.trans hm
  cases e
  refine ⟨fd, ?_, fun base _ _ => ok_answers T fa fd F⟩
  obtain ⟨oc, od, kV, doc, pm, an, cdv, ct, osl, rfl, lk, hcd⟩ := F.ex
  exact fun s us hu => match us, hu with | [_], _ => .of_eq rfl
theorem hsp_answers (K : PySem.W.Frag) (H : Hp) (xs : List V) (a : PySem.W.Codec.denoteAll PySem.Challenge.rw_tabletexts_s01_answers.args) (hO : OnlyF H) (hwi : PySem.W.Codec.withinAll PySem.Challenge.rw_tabletexts_s01_answers.args a = true)
    (hask : PySem.W.Codec.app PySem.Challenge.rw_tabletexts_s01_answers.args PySem.Challenge.rw_tabletexts_s01_answers.asked a = true) (hx : DwAll K H xs (PySem.W.Codec.encAll PySem.Challenge.rw_tabletexts_s01_answers.args a)) :
    spAns K xs H (fun v H' => Dw K H' v (PySem.Challenge.rw_tabletexts_s01_answers.ret.enc (PySem.W.Codec.app PySem.Challenge.rw_tabletexts_s01_answers.args PySem.Challenge.rw_tabletexts_s01_answers.f a))) fun _ _ _ => False := by
  cases hx with
  | cons h1 h2 =>
    cases h2
    cases h1 with
    | lst hs ha =>
      have e := L2.ints_dw a.1 _ ha
      subst e
      obtain ⟨cs, g1, g2, g3, g4⟩ := plain_law (l := a.1) hask
      refine ⟨(a.1, cs), ⟨_, rfl, ⟨_, rfl, hs⟩, g1, g2, g3⟩, fun p H' _ _ hp => ?_⟩
      change H' p = some (.lst ((PyFlat.told (playL Vatdfa.start cs)).map V.int)) at hp
      rw [← g4] at hp
      exact .lst (L2.SqL.of hp) (L2.dw_ints _)
end Tx
end
open PySem PySem.W PyProof.Rows
set_option maxRecDepth 100000 in
set_option maxHeartbeats 0 in
theorem PySem.Challenge.cw_tabletexts_s01_answers_holds : PySem.Challenge.rw_tabletexts_s01_answers.Holds := by
  w_on; k_headS; (case hw => exact ⟨[.list [.int 10]], by decide +kernel, by decide +kernel⟩)
  k_fillS
  refine L2.walk_specK (r := PySem.Challenge.rw_tabletexts_s01_answers) (k := 10) (CX := L2.CX0) (ps := ["calls"]) (sp := Tx.spAns) (by decide +kernel) rfl rfl ⟨rfl, by decide, by decide⟩ (fun w h Y => PySem.W.kIn_of Y) ?F ?S (fun _ _ _ _ z => z)
  case S => exact Tx.hsp_answers
  case F =>
    intro w mg fa h Y KX G hmg
    refine Tx.fin_f hmg ?_
    refine' Tx.tops_mk KX G ?b_all ?b_any ?b_len ?b_list ?b_max ?b_min ?b_range ?b_sorted ?b_sum ?b_tuple ?c_LINE_END ?c_QUOTES ?c_COMMA ?c_MINUS ?c_ZERO ?c_LIMIT ?c_MOST_COLUMNS ?c_MOST_ROWS ?c_MOST_BYTES ?t_EMPTY ?t_NEVER ?t_NO_FAULT ?t_HEADS ?t_LISTS ?f_heads_end ?f_call_end ?f_call_at ?f_cut ?f_is_digit ?f_is_small ?f_is_seen ?f_is_word ?f_is_name ?f_digits_from ?f_is_number_text ?f_number_of ?f_digits ?f_decimal ?f_number_cell ?f_word_cell ?f_in_limits ?f_told_bytes ?f_told_cell ?f_needs_quotes ?f_in_quotes ?f_shown_cell ?f_is_column ?f_columns_good ?f_column_cells ?f_numbers_of ?f_words_of ?f_kind_of ?f_how_many_empty ?f_how_many_unlike ?f_column_told ?f_found ?f_alike_in ?f_earlier ?f_twice ?f_is_key ?f_columns_in ?f_column_sets ?f_is_part ?f_least_keys ?f_picked ?f_ordered_rows ?f_same_rows ?f_rows_by_names ?f_how_alike ?f_shown_line ?f_shown_table ?f_told_table ?f_names_good ?f_taken_cell ?f_taken_table ?f_counted ?f_ask_cell ?f_ask_column ?f_ask_find ?f_ask_key ?f_ask_keys ?f_ask_sorted ?f_asked ?f_opens ?f_parts_cells ?f_bare_end ?f_closing ?f_cell_end ?f_goes_on ?f_starts ?f_quoted_bytes ?f_piece_at ?f_lines_of ?f_tells_empty ?f_tells_number ?f_tells_cell ?f_cell_of ?f_row_of ?f_text_table ?f_byte_fault ?f_quote_fault_at ?f_quote_fault ?f_names_fault ?f_row_fault ?f_lines_fault ?f_text_fault ?f_load ?f_take ?f_alike ?f_answer ?f_answers ?k_Call ?k_Table ?k_Taker ?k_Piece ?k_Desk
    (case b_all => as_aux_lemma => k_is)
    (case b_any => as_aux_lemma => k_is)
    (case b_len => as_aux_lemma => k_is)
    (case b_list => as_aux_lemma => k_is)
    (case b_max => as_aux_lemma => k_is)
    (case b_min => as_aux_lemma => k_is)
    (case b_range => as_aux_lemma => k_is)
    (case b_sorted => as_aux_lemma => k_is)
    (case b_sum => as_aux_lemma => k_is)
    (case b_tuple => as_aux_lemma => k_is)
    (case c_LINE_END => (refine' Tx.int_at KX G ?ev; (case ev => as_aux_lemma => k_is)))
    (case c_QUOTES => (refine' Tx.int_at KX G ?ev; (case ev => as_aux_lemma => k_is)))
    (case c_COMMA => (refine' Tx.int_at KX G ?ev; (case ev => as_aux_lemma => k_is)))
    (case c_MINUS => (refine' Tx.int_at KX G ?ev; (case ev => as_aux_lemma => k_is)))
    (case c_ZERO => (refine' Tx.int_at KX G ?ev; (case ev => as_aux_lemma => k_is)))
    (case c_LIMIT => (refine' Tx.int_at KX G ?ev; (case ev => as_aux_lemma => k_is)))
    (case c_MOST_COLUMNS => (refine' Tx.int_at KX G ?ev; (case ev => as_aux_lemma => k_is)))
    (case c_MOST_ROWS => (refine' Tx.int_at KX G ?ev; (case ev => as_aux_lemma => k_is)))
    (case c_MOST_BYTES => (refine' Tx.int_at KX G ?ev; (case ev => as_aux_lemma => k_is)))
    (case t_EMPTY => (refine' Tx.tup_at KX G ?ta ?tl ?tv ?ts; (case ta => as_aux_lemma => k_is); (case tl => as_aux_lemma => k_is); (case tv => exact (.cons ⟨_, rfl⟩ .nil)); (case ts => decide)))
    (case t_NEVER => (refine' Tx.tup_at KX G ?ta ?tl ?tv ?ts; (case ta => as_aux_lemma => k_is); (case tl => as_aux_lemma => k_is); (case tv => exact (.cons ⟨_, rfl⟩ (.cons ⟨_, rfl⟩ .nil))); (case ts => decide)))
    (case t_NO_FAULT => (refine' Tx.tup_at KX G ?ta ?tl ?tv ?ts; (case ta => as_aux_lemma => k_is); (case tl => as_aux_lemma => k_is); (case tv => exact (.cons ⟨_, rfl⟩ (.cons ⟨_, rfl⟩ .nil))); (case ts => decide)))
    (case t_HEADS => (refine' Tx.tup_at KX G ?ta ?tl ?tv ?ts; (case ta => as_aux_lemma => k_is); (case tl => as_aux_lemma => k_is); (case tv => exact (.cons ⟨_, rfl⟩ (.cons ⟨_, rfl⟩ (.cons ⟨_, rfl⟩ (.cons ⟨_, rfl⟩ (.cons ⟨_, rfl⟩ (.cons ⟨_, rfl⟩ (.cons ⟨_, rfl⟩ (.cons ⟨_, rfl⟩ (.cons ⟨_, rfl⟩ (.cons ⟨_, rfl⟩ (.cons ⟨_, rfl⟩ .nil)))))))))))); (case ts => decide)))
    (case t_LISTS => (refine' Tx.tup_at KX G ?ta ?tl ?tv ?ts; (case ta => as_aux_lemma => k_is); (case tl => as_aux_lemma => k_is); (case tv => exact (.cons rfl (.cons rfl (.cons rfl (.cons rfl (.cons rfl (.cons rfl (.cons rfl (.cons rfl (.cons rfl (.cons rfl (.cons rfl .nil)))))))))))); (case ts => decide)))
    (case f_heads_end => (refine' Tx.def_at KX G ?fa ?fl ?fc ?fk Tx.bd_heads_end; (case fa => as_aux_lemma => k_is); (case fl => as_aux_lemma => k_is); (case fc => as_aux_lemma => k_is); (case fk => as_aux_lemma => k_is)))
    (case f_call_end => (refine' Tx.def_at KX G ?fa ?fl ?fc ?fk Tx.bd_call_end; (case fa => as_aux_lemma => k_is); (case fl => as_aux_lemma => k_is); (case fc => as_aux_lemma => k_is); (case fk => as_aux_lemma => k_is)))
    (case f_call_at => (refine' Tx.def_at KX G ?fa ?fl ?fc ?fk Tx.bd_call_at; (case fa => as_aux_lemma => k_is); (case fl => as_aux_lemma => k_is); (case fc => as_aux_lemma => k_is); (case fk => as_aux_lemma => k_is)))
    (case f_cut => (refine' Tx.def_at KX G ?fa ?fl ?fc ?fk Tx.bd_cut; (case fa => as_aux_lemma => k_is); (case fl => as_aux_lemma => k_is); (case fc => as_aux_lemma => k_is); (case fk => as_aux_lemma => k_is)))
    (case f_is_digit => (refine' Tx.def_at KX G ?fa ?fl ?fc ?fk Tx.bd_is_digit; (case fa => as_aux_lemma => k_is); (case fl => as_aux_lemma => k_is); (case fc => as_aux_lemma => k_is); (case fk => as_aux_lemma => k_is)))
    (case f_is_small => (refine' Tx.def_at KX G ?fa ?fl ?fc ?fk Tx.bd_is_small; (case fa => as_aux_lemma => k_is); (case fl => as_aux_lemma => k_is); (case fc => as_aux_lemma => k_is); (case fk => as_aux_lemma => k_is)))
    (case f_is_seen => (refine' Tx.def_at KX G ?fa ?fl ?fc ?fk Tx.bd_is_seen; (case fa => as_aux_lemma => k_is); (case fl => as_aux_lemma => k_is); (case fc => as_aux_lemma => k_is); (case fk => as_aux_lemma => k_is)))
    (case f_is_word => (refine' Tx.def_at KX G ?fa ?fl ?fc ?fk Tx.bd_is_word; (case fa => as_aux_lemma => k_is); (case fl => as_aux_lemma => k_is); (case fc => as_aux_lemma => k_is); (case fk => as_aux_lemma => k_is)))
    (case f_is_name => (refine' Tx.def_at KX G ?fa ?fl ?fc ?fk Tx.bd_is_name; (case fa => as_aux_lemma => k_is); (case fl => as_aux_lemma => k_is); (case fc => as_aux_lemma => k_is); (case fk => as_aux_lemma => k_is)))
    (case f_digits_from => (refine' Tx.def_at KX G ?fa ?fl ?fc ?fk Tx.bd_digits_from; (case fa => as_aux_lemma => k_is); (case fl => as_aux_lemma => k_is); (case fc => as_aux_lemma => k_is); (case fk => as_aux_lemma => k_is)))
    (case f_is_number_text => (refine' Tx.def_at KX G ?fa ?fl ?fc ?fk Tx.bd_is_number_text; (case fa => as_aux_lemma => k_is); (case fl => as_aux_lemma => k_is); (case fc => as_aux_lemma => k_is); (case fk => as_aux_lemma => k_is)))
    (case f_number_of => (refine' Tx.def_at KX G ?fa ?fl ?fc ?fk Tx.bd_number_of; (case fa => as_aux_lemma => k_is); (case fl => as_aux_lemma => k_is); (case fc => as_aux_lemma => k_is); (case fk => as_aux_lemma => k_is)))
    (case f_digits => (refine' Tx.def_at KX G ?fa ?fl ?fc ?fk Tx.bd_digits; (case fa => as_aux_lemma => k_is); (case fl => as_aux_lemma => k_is); (case fc => as_aux_lemma => k_is); (case fk => as_aux_lemma => k_is)))
    (case f_decimal => (refine' Tx.def_at KX G ?fa ?fl ?fc ?fk Tx.bd_decimal; (case fa => as_aux_lemma => k_is); (case fl => as_aux_lemma => k_is); (case fc => as_aux_lemma => k_is); (case fk => as_aux_lemma => k_is)))
    (case f_number_cell => (refine' Tx.def_at KX G ?fa ?fl ?fc ?fk Tx.bd_number_cell; (case fa => as_aux_lemma => k_is); (case fl => as_aux_lemma => k_is); (case fc => as_aux_lemma => k_is); (case fk => as_aux_lemma => k_is)))
    (case f_word_cell => (refine' Tx.def_at KX G ?fa ?fl ?fc ?fk Tx.bd_word_cell; (case fa => as_aux_lemma => k_is); (case fl => as_aux_lemma => k_is); (case fc => as_aux_lemma => k_is); (case fk => as_aux_lemma => k_is)))
    (case f_in_limits => (refine' Tx.def_at KX G ?fa ?fl ?fc ?fk Tx.bd_in_limits; (case fa => as_aux_lemma => k_is); (case fl => as_aux_lemma => k_is); (case fc => as_aux_lemma => k_is); (case fk => as_aux_lemma => k_is)))
    (case f_told_bytes => (refine' Tx.def_at KX G ?fa ?fl ?fc ?fk Tx.bd_told_bytes; (case fa => as_aux_lemma => k_is); (case fl => as_aux_lemma => k_is); (case fc => as_aux_lemma => k_is); (case fk => as_aux_lemma => k_is)))
    (case f_told_cell => (refine' Tx.def_at KX G ?fa ?fl ?fc ?fk Tx.bd_told_cell; (case fa => as_aux_lemma => k_is); (case fl => as_aux_lemma => k_is); (case fc => as_aux_lemma => k_is); (case fk => as_aux_lemma => k_is)))
    (case f_needs_quotes => (refine' Tx.def_at KX G ?fa ?fl ?fc ?fk Tx.bd_needs_quotes; (case fa => as_aux_lemma => k_is); (case fl => as_aux_lemma => k_is); (case fc => as_aux_lemma => k_is); (case fk => as_aux_lemma => k_is)))
    (case f_in_quotes => (refine' Tx.def_at KX G ?fa ?fl ?fc ?fk Tx.bd_in_quotes; (case fa => as_aux_lemma => k_is); (case fl => as_aux_lemma => k_is); (case fc => as_aux_lemma => k_is); (case fk => as_aux_lemma => k_is)))
    (case f_shown_cell => (refine' Tx.def_at KX G ?fa ?fl ?fc ?fk Tx.bd_shown_cell; (case fa => as_aux_lemma => k_is); (case fl => as_aux_lemma => k_is); (case fc => as_aux_lemma => k_is); (case fk => as_aux_lemma => k_is)))
    (case f_is_column => (refine' Tx.def_at KX G ?fa ?fl ?fc ?fk Tx.bd_is_column; (case fa => as_aux_lemma => k_is); (case fl => as_aux_lemma => k_is); (case fc => as_aux_lemma => k_is); (case fk => as_aux_lemma => k_is)))
    (case f_columns_good => (refine' Tx.def_at KX G ?fa ?fl ?fc ?fk Tx.bd_columns_good; (case fa => as_aux_lemma => k_is); (case fl => as_aux_lemma => k_is); (case fc => as_aux_lemma => k_is); (case fk => as_aux_lemma => k_is)))
    (case f_column_cells => (refine' Tx.def_at KX G ?fa ?fl ?fc ?fk Tx.bd_column_cells; (case fa => as_aux_lemma => k_is); (case fl => as_aux_lemma => k_is); (case fc => as_aux_lemma => k_is); (case fk => as_aux_lemma => k_is)))
    (case f_numbers_of => (refine' Tx.def_at KX G ?fa ?fl ?fc ?fk Tx.bd_numbers_of; (case fa => as_aux_lemma => k_is); (case fl => as_aux_lemma => k_is); (case fc => as_aux_lemma => k_is); (case fk => as_aux_lemma => k_is)))
    (case f_words_of => (refine' Tx.def_at KX G ?fa ?fl ?fc ?fk Tx.bd_words_of; (case fa => as_aux_lemma => k_is); (case fl => as_aux_lemma => k_is); (case fc => as_aux_lemma => k_is); (case fk => as_aux_lemma => k_is)))
    (case f_kind_of => (refine' Tx.def_at KX G ?fa ?fl ?fc ?fk Tx.bd_kind_of; (case fa => as_aux_lemma => k_is); (case fl => as_aux_lemma => k_is); (case fc => as_aux_lemma => k_is); (case fk => as_aux_lemma => k_is)))
    (case f_how_many_empty => (refine' Tx.def_at KX G ?fa ?fl ?fc ?fk Tx.bd_how_many_empty; (case fa => as_aux_lemma => k_is); (case fl => as_aux_lemma => k_is); (case fc => as_aux_lemma => k_is); (case fk => as_aux_lemma => k_is)))
    (case f_how_many_unlike => (refine' Tx.def_at KX G ?fa ?fl ?fc ?fk Tx.bd_how_many_unlike; (case fa => as_aux_lemma => k_is); (case fl => as_aux_lemma => k_is); (case fc => as_aux_lemma => k_is); (case fk => as_aux_lemma => k_is)))
    (case f_column_told => (refine' Tx.def_at KX G ?fa ?fl ?fc ?fk Tx.bd_column_told; (case fa => as_aux_lemma => k_is); (case fl => as_aux_lemma => k_is); (case fc => as_aux_lemma => k_is); (case fk => as_aux_lemma => k_is)))
    (case f_found => (refine' Tx.def_at KX G ?fa ?fl ?fc ?fk Tx.bd_found; (case fa => as_aux_lemma => k_is); (case fl => as_aux_lemma => k_is); (case fc => as_aux_lemma => k_is); (case fk => as_aux_lemma => k_is)))
    (case f_alike_in => (refine' Tx.def_at KX G ?fa ?fl ?fc ?fk Tx.bd_alike_in; (case fa => as_aux_lemma => k_is); (case fl => as_aux_lemma => k_is); (case fc => as_aux_lemma => k_is); (case fk => as_aux_lemma => k_is)))
    (case f_earlier => (refine' Tx.def_at KX G ?fa ?fl ?fc ?fk Tx.bd_earlier; (case fa => as_aux_lemma => k_is); (case fl => as_aux_lemma => k_is); (case fc => as_aux_lemma => k_is); (case fk => as_aux_lemma => k_is)))
    (case f_twice => (refine' Tx.def_at KX G ?fa ?fl ?fc ?fk Tx.bd_twice; (case fa => as_aux_lemma => k_is); (case fl => as_aux_lemma => k_is); (case fc => as_aux_lemma => k_is); (case fk => as_aux_lemma => k_is)))
    (case f_is_key => (refine' Tx.def_at KX G ?fa ?fl ?fc ?fk Tx.bd_is_key; (case fa => as_aux_lemma => k_is); (case fl => as_aux_lemma => k_is); (case fc => as_aux_lemma => k_is); (case fk => as_aux_lemma => k_is)))
    (case f_columns_in => (refine' Tx.def_at KX G ?fa ?fl ?fc ?fk Tx.bd_columns_in; (case fa => as_aux_lemma => k_is); (case fl => as_aux_lemma => k_is); (case fc => as_aux_lemma => k_is); (case fk => as_aux_lemma => k_is)))
    (case f_column_sets => (refine' Tx.def_at KX G ?fa ?fl ?fc ?fk Tx.bd_column_sets; (case fa => as_aux_lemma => k_is); (case fl => as_aux_lemma => k_is); (case fc => as_aux_lemma => k_is); (case fk => as_aux_lemma => k_is)))
    (case f_is_part => (refine' Tx.def_at KX G ?fa ?fl ?fc ?fk Tx.bd_is_part; (case fa => as_aux_lemma => k_is); (case fl => as_aux_lemma => k_is); (case fc => as_aux_lemma => k_is); (case fk => as_aux_lemma => k_is)))
    (case f_least_keys => (refine' Tx.def_at KX G ?fa ?fl ?fc ?fk Tx.bd_least_keys; (case fa => as_aux_lemma => k_is); (case fl => as_aux_lemma => k_is); (case fc => as_aux_lemma => k_is); (case fk => as_aux_lemma => k_is)))
    (case f_picked => (refine' Tx.def_at KX G ?fa ?fl ?fc ?fk Tx.bd_picked; (case fa => as_aux_lemma => k_is); (case fl => as_aux_lemma => k_is); (case fc => as_aux_lemma => k_is); (case fk => as_aux_lemma => k_is)))
    (case f_ordered_rows => (refine' Tx.def_at KX G ?fa ?fl ?fc ?fk Tx.bd_ordered_rows; (case fa => as_aux_lemma => k_is); (case fl => as_aux_lemma => k_is); (case fc => as_aux_lemma => k_is); (case fk => as_aux_lemma => k_is)))
    (case f_same_rows => (refine' Tx.def_at KX G ?fa ?fl ?fc ?fk Tx.bd_same_rows; (case fa => as_aux_lemma => k_is); (case fl => as_aux_lemma => k_is); (case fc => as_aux_lemma => k_is); (case fk => as_aux_lemma => k_is)))
    (case f_rows_by_names => (refine' Tx.def_at KX G ?fa ?fl ?fc ?fk Tx.bd_rows_by_names; (case fa => as_aux_lemma => k_is); (case fl => as_aux_lemma => k_is); (case fc => as_aux_lemma => k_is); (case fk => as_aux_lemma => k_is)))
    (case f_how_alike => (refine' Tx.def_at KX G ?fa ?fl ?fc ?fk Tx.bd_how_alike; (case fa => as_aux_lemma => k_is); (case fl => as_aux_lemma => k_is); (case fc => as_aux_lemma => k_is); (case fk => as_aux_lemma => k_is)))
    (case f_shown_line => (refine' Tx.def_at KX G ?fa ?fl ?fc ?fk Tx.bd_shown_line; (case fa => as_aux_lemma => k_is); (case fl => as_aux_lemma => k_is); (case fc => as_aux_lemma => k_is); (case fk => as_aux_lemma => k_is)))
    (case f_shown_table => (refine' Tx.def_at KX G ?fa ?fl ?fc ?fk Tx.bd_shown_table; (case fa => as_aux_lemma => k_is); (case fl => as_aux_lemma => k_is); (case fc => as_aux_lemma => k_is); (case fk => as_aux_lemma => k_is)))
    (case f_told_table => (refine' Tx.def_at KX G ?fa ?fl ?fc ?fk Tx.bd_told_table; (case fa => as_aux_lemma => k_is); (case fl => as_aux_lemma => k_is); (case fc => as_aux_lemma => k_is); (case fk => as_aux_lemma => k_is)))
    (case f_names_good => (refine' Tx.def_at KX G ?fa ?fl ?fc ?fk Tx.bd_names_good; (case fa => as_aux_lemma => k_is); (case fl => as_aux_lemma => k_is); (case fc => as_aux_lemma => k_is); (case fk => as_aux_lemma => k_is)))
    (case f_taken_cell => (refine' Tx.def_at KX G ?fa ?fl ?fc ?fk Tx.bd_taken_cell; (case fa => as_aux_lemma => k_is); (case fl => as_aux_lemma => k_is); (case fc => as_aux_lemma => k_is); (case fk => as_aux_lemma => k_is)))
    (case f_taken_table => (refine' Tx.def_at KX G ?fa ?fl ?fc ?fk Tx.bd_taken_table; (case fa => as_aux_lemma => k_is); (case fl => as_aux_lemma => k_is); (case fc => as_aux_lemma => k_is); (case fk => as_aux_lemma => k_is)))
    (case f_counted => (refine' Tx.def_at KX G ?fa ?fl ?fc ?fk Tx.bd_counted; (case fa => as_aux_lemma => k_is); (case fl => as_aux_lemma => k_is); (case fc => as_aux_lemma => k_is); (case fk => as_aux_lemma => k_is)))
    (case f_ask_cell => (refine' Tx.def_at KX G ?fa ?fl ?fc ?fk Tx.bd_ask_cell; (case fa => as_aux_lemma => k_is); (case fl => as_aux_lemma => k_is); (case fc => as_aux_lemma => k_is); (case fk => as_aux_lemma => k_is)))
    (case f_ask_column => (refine' Tx.def_at KX G ?fa ?fl ?fc ?fk Tx.bd_ask_column; (case fa => as_aux_lemma => k_is); (case fl => as_aux_lemma => k_is); (case fc => as_aux_lemma => k_is); (case fk => as_aux_lemma => k_is)))
    (case f_ask_find => (refine' Tx.def_at KX G ?fa ?fl ?fc ?fk Tx.bd_ask_find; (case fa => as_aux_lemma => k_is); (case fl => as_aux_lemma => k_is); (case fc => as_aux_lemma => k_is); (case fk => as_aux_lemma => k_is)))
    (case f_ask_key => (refine' Tx.def_at KX G ?fa ?fl ?fc ?fk Tx.bd_ask_key; (case fa => as_aux_lemma => k_is); (case fl => as_aux_lemma => k_is); (case fc => as_aux_lemma => k_is); (case fk => as_aux_lemma => k_is)))
    (case f_ask_keys => (refine' Tx.def_at KX G ?fa ?fl ?fc ?fk Tx.bd_ask_keys; (case fa => as_aux_lemma => k_is); (case fl => as_aux_lemma => k_is); (case fc => as_aux_lemma => k_is); (case fk => as_aux_lemma => k_is)))
    (case f_ask_sorted => (refine' Tx.def_at KX G ?fa ?fl ?fc ?fk Tx.bd_ask_sorted; (case fa => as_aux_lemma => k_is); (case fl => as_aux_lemma => k_is); (case fc => as_aux_lemma => k_is); (case fk => as_aux_lemma => k_is)))
    (case f_asked => (refine' Tx.def_at KX G ?fa ?fl ?fc ?fk Tx.bd_asked; (case fa => as_aux_lemma => k_is); (case fl => as_aux_lemma => k_is); (case fc => as_aux_lemma => k_is); (case fk => as_aux_lemma => k_is)))
    (case f_opens => (refine' Tx.def_at KX G ?fa ?fl ?fc ?fk Tx.bd_opens; (case fa => as_aux_lemma => k_is); (case fl => as_aux_lemma => k_is); (case fc => as_aux_lemma => k_is); (case fk => as_aux_lemma => k_is)))
    (case f_parts_cells => (refine' Tx.def_at KX G ?fa ?fl ?fc ?fk Tx.bd_parts_cells; (case fa => as_aux_lemma => k_is); (case fl => as_aux_lemma => k_is); (case fc => as_aux_lemma => k_is); (case fk => as_aux_lemma => k_is)))
    (case f_bare_end => (refine' Tx.def_at KX G ?fa ?fl ?fc ?fk Tx.bd_bare_end; (case fa => as_aux_lemma => k_is); (case fl => as_aux_lemma => k_is); (case fc => as_aux_lemma => k_is); (case fk => as_aux_lemma => k_is)))
    (case f_closing => (refine' Tx.def_at KX G ?fa ?fl ?fc ?fk Tx.bd_closing; (case fa => as_aux_lemma => k_is); (case fl => as_aux_lemma => k_is); (case fc => as_aux_lemma => k_is); (case fk => as_aux_lemma => k_is)))
    (case f_cell_end => (refine' Tx.def_at KX G ?fa ?fl ?fc ?fk Tx.bd_cell_end; (case fa => as_aux_lemma => k_is); (case fl => as_aux_lemma => k_is); (case fc => as_aux_lemma => k_is); (case fk => as_aux_lemma => k_is)))
    (case f_goes_on => (refine' Tx.def_at KX G ?fa ?fl ?fc ?fk Tx.bd_goes_on; (case fa => as_aux_lemma => k_is); (case fl => as_aux_lemma => k_is); (case fc => as_aux_lemma => k_is); (case fk => as_aux_lemma => k_is)))
    (case f_starts => (refine' Tx.def_at KX G ?fa ?fl ?fc ?fk Tx.bd_starts; (case fa => as_aux_lemma => k_is); (case fl => as_aux_lemma => k_is); (case fc => as_aux_lemma => k_is); (case fk => as_aux_lemma => k_is)))
    (case f_quoted_bytes => (refine' Tx.def_at KX G ?fa ?fl ?fc ?fk Tx.bd_quoted_bytes; (case fa => as_aux_lemma => k_is); (case fl => as_aux_lemma => k_is); (case fc => as_aux_lemma => k_is); (case fk => as_aux_lemma => k_is)))
    (case f_piece_at => (refine' Tx.def_at KX G ?fa ?fl ?fc ?fk Tx.bd_piece_at; (case fa => as_aux_lemma => k_is); (case fl => as_aux_lemma => k_is); (case fc => as_aux_lemma => k_is); (case fk => as_aux_lemma => k_is)))
    (case f_lines_of => (refine' Tx.def_at KX G ?fa ?fl ?fc ?fk Tx.bd_lines_of; (case fa => as_aux_lemma => k_is); (case fl => as_aux_lemma => k_is); (case fc => as_aux_lemma => k_is); (case fk => as_aux_lemma => k_is)))
    (case f_tells_empty => (refine' Tx.def_at KX G ?fa ?fl ?fc ?fk Tx.bd_tells_empty; (case fa => as_aux_lemma => k_is); (case fl => as_aux_lemma => k_is); (case fc => as_aux_lemma => k_is); (case fk => as_aux_lemma => k_is)))
    (case f_tells_number => (refine' Tx.def_at KX G ?fa ?fl ?fc ?fk Tx.bd_tells_number; (case fa => as_aux_lemma => k_is); (case fl => as_aux_lemma => k_is); (case fc => as_aux_lemma => k_is); (case fk => as_aux_lemma => k_is)))
    (case f_tells_cell => (refine' Tx.def_at KX G ?fa ?fl ?fc ?fk Tx.bd_tells_cell; (case fa => as_aux_lemma => k_is); (case fl => as_aux_lemma => k_is); (case fc => as_aux_lemma => k_is); (case fk => as_aux_lemma => k_is)))
    (case f_cell_of => (refine' Tx.def_at KX G ?fa ?fl ?fc ?fk Tx.bd_cell_of; (case fa => as_aux_lemma => k_is); (case fl => as_aux_lemma => k_is); (case fc => as_aux_lemma => k_is); (case fk => as_aux_lemma => k_is)))
    (case f_row_of => (refine' Tx.def_at KX G ?fa ?fl ?fc ?fk Tx.bd_row_of; (case fa => as_aux_lemma => k_is); (case fl => as_aux_lemma => k_is); (case fc => as_aux_lemma => k_is); (case fk => as_aux_lemma => k_is)))
    (case f_text_table => (refine' Tx.def_at KX G ?fa ?fl ?fc ?fk Tx.bd_text_table; (case fa => as_aux_lemma => k_is); (case fl => as_aux_lemma => k_is); (case fc => as_aux_lemma => k_is); (case fk => as_aux_lemma => k_is)))
    (case f_byte_fault => (refine' Tx.def_at KX G ?fa ?fl ?fc ?fk Tx.bd_byte_fault; (case fa => as_aux_lemma => k_is); (case fl => as_aux_lemma => k_is); (case fc => as_aux_lemma => k_is); (case fk => as_aux_lemma => k_is)))
    (case f_quote_fault_at => (refine' Tx.def_at KX G ?fa ?fl ?fc ?fk Tx.bd_quote_fault_at; (case fa => as_aux_lemma => k_is); (case fl => as_aux_lemma => k_is); (case fc => as_aux_lemma => k_is); (case fk => as_aux_lemma => k_is)))
    (case f_quote_fault => (refine' Tx.def_at KX G ?fa ?fl ?fc ?fk Tx.bd_quote_fault; (case fa => as_aux_lemma => k_is); (case fl => as_aux_lemma => k_is); (case fc => as_aux_lemma => k_is); (case fk => as_aux_lemma => k_is)))
    (case f_names_fault => (refine' Tx.def_at KX G ?fa ?fl ?fc ?fk Tx.bd_names_fault; (case fa => as_aux_lemma => k_is); (case fl => as_aux_lemma => k_is); (case fc => as_aux_lemma => k_is); (case fk => as_aux_lemma => k_is)))
    (case f_row_fault => (refine' Tx.def_at KX G ?fa ?fl ?fc ?fk Tx.bd_row_fault; (case fa => as_aux_lemma => k_is); (case fl => as_aux_lemma => k_is); (case fc => as_aux_lemma => k_is); (case fk => as_aux_lemma => k_is)))
    (case f_lines_fault => (refine' Tx.def_at KX G ?fa ?fl ?fc ?fk Tx.bd_lines_fault; (case fa => as_aux_lemma => k_is); (case fl => as_aux_lemma => k_is); (case fc => as_aux_lemma => k_is); (case fk => as_aux_lemma => k_is)))
    (case f_text_fault => (refine' Tx.def_at KX G ?fa ?fl ?fc ?fk Tx.bd_text_fault; (case fa => as_aux_lemma => k_is); (case fl => as_aux_lemma => k_is); (case fc => as_aux_lemma => k_is); (case fk => as_aux_lemma => k_is)))
    (case f_load => (refine' Tx.def_at KX G ?fa ?fl ?fc ?fk Tx.bd_load; (case fa => as_aux_lemma => k_is); (case fl => as_aux_lemma => k_is); (case fc => as_aux_lemma => k_is); (case fk => as_aux_lemma => k_is)))
    (case f_take => (refine' Tx.def_at KX G ?fa ?fl ?fc ?fk Tx.bd_take; (case fa => as_aux_lemma => k_is); (case fl => as_aux_lemma => k_is); (case fc => as_aux_lemma => k_is); (case fk => as_aux_lemma => k_is)))
    (case f_alike => (refine' Tx.def_at KX G ?fa ?fl ?fc ?fk Tx.bd_alike; (case fa => as_aux_lemma => k_is); (case fl => as_aux_lemma => k_is); (case fc => as_aux_lemma => k_is); (case fk => as_aux_lemma => k_is)))
    (case f_answer => (refine' Tx.def_at KX G ?fa ?fl ?fc ?fk Tx.bd_answer; (case fa => as_aux_lemma => k_is); (case fl => as_aux_lemma => k_is); (case fc => as_aux_lemma => k_is); (case fk => as_aux_lemma => k_is)))
    (case f_answers => (refine' Tx.def_at KX G ?fa ?fl ?fc ?fk Tx.bd_answers; (case fa => as_aux_lemma => k_is); (case fl => as_aux_lemma => k_is); (case fc => as_aux_lemma => k_is); (case fk => as_aux_lemma => k_is)))
    (case k_Call => (refine' Tx.cls_Call KX G ?qaC ?qpg ?qhd ?qpo ?qsa ?qmk ?qkc ?qn0 ?qn1 ?qn2 ?qa0 ?qi0 ?ql0 ?qc0 ?qk0; (case qaC => as_aux_lemma => k_is); (case qpg => as_aux_lemma => k_is); (case qhd => as_aux_lemma => k_is); (case qpo => as_aux_lemma => k_is); (case qsa => as_aux_lemma => k_is); (case qmk => as_aux_lemma => k_is); (case qkc => as_aux_lemma => k_is); (case qn0 => as_aux_lemma => k_is); (case qn1 => as_aux_lemma => k_is); (case qn2 => as_aux_lemma => k_is); (case qa0 => as_aux_lemma => k_is); (case qi0 => as_aux_lemma => k_is); (case ql0 => as_aux_lemma => k_is); (case qc0 => as_aux_lemma => k_is); (case qk0 => as_aux_lemma => k_is)))
    (case k_Table => (refine' Tx.cls_Table KX G ?qaC ?qpg ?qhd ?qpo ?qsa ?qmk ?qkc ?qn0 ?qn1 ?qa0 ?qi0 ?ql0 ?qc0 ?qk0; (case qaC => as_aux_lemma => k_is); (case qpg => as_aux_lemma => k_is); (case qhd => as_aux_lemma => k_is); (case qpo => as_aux_lemma => k_is); (case qsa => as_aux_lemma => k_is); (case qmk => as_aux_lemma => k_is); (case qkc => as_aux_lemma => k_is); (case qn0 => as_aux_lemma => k_is); (case qn1 => as_aux_lemma => k_is); (case qa0 => as_aux_lemma => k_is); (case qi0 => as_aux_lemma => k_is); (case ql0 => as_aux_lemma => k_is); (case qc0 => as_aux_lemma => k_is); (case qk0 => as_aux_lemma => k_is)))
    (case k_Taker => (refine' Tx.cls_Taker KX G ?qaC ?qpg ?qhd ?qpo ?qsa ?qmk ?qkc ?qn0 ?qn1 ?qn2 ?qa0 ?qi0 ?ql0 ?qc0 ?qk0 ?qa1 ?qi1 ?ql1 ?qc1 ?qk1 ?qa2 ?qi2 ?ql2 ?qc2 ?qk2 ?qa3 ?qi3 ?ql3 ?qc3 ?qk3 ?qa4 ?qi4 ?ql4 ?qc4 ?qk4 ?qa5 ?qi5 ?ql5 ?qc5 ?qk5 ?qa6 ?qi6 ?ql6 ?qc6 ?qk6; (case qaC => as_aux_lemma => k_is); (case qpg => as_aux_lemma => k_is); (case qhd => as_aux_lemma => k_is); (case qpo => as_aux_lemma => k_is); (case qsa => as_aux_lemma => k_is); (case qmk => as_aux_lemma => k_is); (case qkc => as_aux_lemma => k_is); (case qn0 => as_aux_lemma => k_is); (case qn1 => as_aux_lemma => k_is); (case qn2 => as_aux_lemma => k_is); (case qa0 => as_aux_lemma => k_is); (case qi0 => as_aux_lemma => k_is); (case ql0 => as_aux_lemma => k_is); (case qc0 => as_aux_lemma => k_is); (case qk0 => as_aux_lemma => k_is); (case qa1 => as_aux_lemma => k_is); (case qi1 => as_aux_lemma => k_is); (case ql1 => as_aux_lemma => k_is); (case qc1 => as_aux_lemma => k_is); (case qk1 => as_aux_lemma => k_is); (case qa2 => as_aux_lemma => k_is); (case qi2 => as_aux_lemma => k_is); (case ql2 => as_aux_lemma => k_is); (case qc2 => as_aux_lemma => k_is); (case qk2 => as_aux_lemma => k_is); (case qa3 => as_aux_lemma => k_is); (case qi3 => as_aux_lemma => k_is); (case ql3 => as_aux_lemma => k_is); (case qc3 => as_aux_lemma => k_is); (case qk3 => as_aux_lemma => k_is); (case qa4 => as_aux_lemma => k_is); (case qi4 => as_aux_lemma => k_is); (case ql4 => as_aux_lemma => k_is); (case qc4 => as_aux_lemma => k_is); (case qk4 => as_aux_lemma => k_is); (case qa5 => as_aux_lemma => k_is); (case qi5 => as_aux_lemma => k_is); (case ql5 => as_aux_lemma => k_is); (case qc5 => as_aux_lemma => k_is); (case qk5 => as_aux_lemma => k_is); (case qa6 => as_aux_lemma => k_is); (case qi6 => as_aux_lemma => k_is); (case ql6 => as_aux_lemma => k_is); (case qc6 => as_aux_lemma => k_is); (case qk6 => as_aux_lemma => k_is)))
    (case k_Piece => (refine' Tx.cls_Piece KX G ?qaC ?qpg ?qhd ?qpo ?qsa ?qmk ?qkc ?qn0 ?qn1 ?qn2 ?qa0 ?qi0 ?ql0 ?qc0 ?qk0; (case qaC => as_aux_lemma => k_is); (case qpg => as_aux_lemma => k_is); (case qhd => as_aux_lemma => k_is); (case qpo => as_aux_lemma => k_is); (case qsa => as_aux_lemma => k_is); (case qmk => as_aux_lemma => k_is); (case qkc => as_aux_lemma => k_is); (case qn0 => as_aux_lemma => k_is); (case qn1 => as_aux_lemma => k_is); (case qn2 => as_aux_lemma => k_is); (case qa0 => as_aux_lemma => k_is); (case qi0 => as_aux_lemma => k_is); (case ql0 => as_aux_lemma => k_is); (case qc0 => as_aux_lemma => k_is); (case qk0 => as_aux_lemma => k_is)))
    (case k_Desk => (refine' Tx.cls_Desk KX G ?qaC ?qpg ?qhd ?qpo ?qsa ?qmk ?qkc ?qn0 ?qa0 ?qi0 ?ql0 ?qc0 ?qk0 ?qa1 ?qi1 ?ql1 ?qc1 ?qk1 ?qa2 ?qi2 ?ql2 ?qc2 ?qk2; (case qaC => as_aux_lemma => k_is); (case qpg => as_aux_lemma => k_is); (case qhd => as_aux_lemma => k_is); (case qpo => as_aux_lemma => k_is); (case qsa => as_aux_lemma => k_is); (case qmk => as_aux_lemma => k_is); (case qkc => as_aux_lemma => k_is); (case qn0 => as_aux_lemma => k_is); (case qa0 => as_aux_lemma => k_is); (case qi0 => as_aux_lemma => k_is); (case ql0 => as_aux_lemma => k_is); (case qc0 => as_aux_lemma => k_is); (case qk0 => as_aux_lemma => k_is); (case qa1 => as_aux_lemma => k_is); (case qi1 => as_aux_lemma => k_is); (case ql1 => as_aux_lemma => k_is); (case qc1 => as_aux_lemma => k_is); (case qk1 => as_aux_lemma => k_is); (case qa2 => as_aux_lemma => k_is); (case qi2 => as_aux_lemma => k_is); (case ql2 => as_aux_lemma => k_is); (case qc2 => as_aux_lemma => k_is); (case qk2 => as_aux_lemma => k_is)))
#print axioms PySem.Challenge.cw_tabletexts_s01_answers_holds
