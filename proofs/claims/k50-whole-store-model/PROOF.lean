import PyProof.Rows.All
import Wide.All
import OpenK.AllK
import Wide.FinOn
import HandS.ForMost
import HandS.Exc
import HandS.WordsExc
import HandS.OwnIter
import HandS.IterNext
import HandS.SetFor
import HandS.ExcField
import HandS.ExcInit
import HandS.HotCalls
import KE.KExcSuper
import KE.KSuper
import HandS.GenList
import HandS.Property
import HandS.IsInst
import HandS.Flow
import HandS.Wide
import HandS.Codes
import HandS.Iter
import HandS.Comp
import KE.KEqDeep
import HandS.ExcOwn
import HandS.ExcCtx
import KE.RegKSuper
import PySem.Challenge.RW_escheat_k50_whole_store_model
set_option Elab.async false
set_option linter.all false
set_option maxRecDepth 100000
set_option maxHeartbeats 4000000
/-! The plain data: a memory of pages, its operations, and what the two programs' loops compute. -/
namespace Esc

structure Reg where
  lives : Bool
  amt : Int
  place : Int
  room : Int

structure Mem where
  words : List Int
  owners : List Int
  regs : List Reg

/-- n places from i on hold v -/
def fill (l : List Int) (i n : Nat) (v : Int) : List Int := l.take i ++ List.replicate n v ++ l.drop (i + n)
theorem fill_zero (l : List Int) (i : Nat) (v : Int) : fill l i 0 v = l := by
  unfold fill
  rw [List.replicate_zero, List.append_nil, Nat.add_zero, List.take_append_drop]
theorem fill_length {l : List Int} {i n : Nat} {v : Int} (h : i + n ≤ l.length) : (fill l i n v).length = l.length := by
  unfold fill
  rw [List.length_append, List.length_append, List.length_take, List.length_replicate, List.length_drop]
  omega
theorem fill_get {l : List Int} {i n : Nat} {v : Int} (h : i + n ≤ l.length) (j : Nat) : (fill l i n v)[j]? = if i ≤ j ∧ j < i + n then some v else l[j]? := by
  unfold fill
  have e1 : (l.take i).length = i := by rw [List.length_take]; omega
  have e2 : (l.take i ++ List.replicate n v).length = i + n := by rw [List.length_append, e1, List.length_replicate]
  by_cases hj : j < i + n
  · rw [List.getElem?_append_left (by rw [e2]; exact hj)]
    by_cases hi : j < i
    · rw [List.getElem?_append_left (by rw [e1]; exact hi), List.getElem?_take_of_lt hi, if_neg (by omega)]
    · rw [List.getElem?_append_right (by rw [e1]; omega), e1, List.getElem?_replicate, if_pos (by omega), if_pos (by omega)]
  · rw [List.getElem?_append_right (by rw [e2]; omega), e2, List.getElem?_drop, if_neg (by omega)]
    congr 1
    omega
theorem ext_get {a b : List Int} (h : ∀ j : Nat, a[j]? = b[j]?) : a = b := List.ext_getElem? h
theorem fill_succ {l : List Int} {i k : Nat} {v : Int} (h : i + k < l.length) : (fill l i k v).set (i + k) v = fill l i (k + 1) v := by
  apply ext_get
  intro j
  rw [List.getElem?_set, fill_get (by omega), fill_get (by omega), fill_length (by omega)]
  by_cases e : i + k = j
  · rw [if_pos e, if_pos (by omega), if_pos (by omega)]
  · rw [if_neg e]
    by_cases q : i ≤ j ∧ j < i + k
    · rw [if_pos q, if_pos (by omega)]
    · rw [if_neg q, if_neg (by omega)]
/-- what stands there already -/
theorem fill_same {l : List Int} {i n : Nat} {v : Int} (h : i + n ≤ l.length) (hv : ∀ j, i ≤ j → j < i + n → l[j]? = some v) : fill l i n v = l := by
  apply ext_get
  intro j
  rw [fill_get h]
  by_cases q : i ≤ j ∧ j < i + n
  · rw [if_pos q, hv j q.1 q.2]
  · rw [if_neg q]

/-! ### the first row of n waiting pages -/
def isFree (os : List Int) (n i : Nat) : Bool := decide ((os.drop i).take n = List.replicate n (-1))
def least (p : Nat → Bool) : Nat → Nat → Nat
  | i, 0 => i
  | i, k + 1 => if p i = true then i else least p (i + 1) k
theorem least_le (p : Nat → Bool) : ∀ k i, least p i k ≤ i + k
  | 0, i => Nat.le_refl _
  | k + 1, i => by
    unfold least
    by_cases h : p i = true
    · rw [if_pos h]; omega
    · rw [if_neg h]
      have := least_le p k (i + 1)
      omega
theorem least_ge (p : Nat → Bool) : ∀ k i, i ≤ least p i k
  | 0, i => Nat.le_refl _
  | k + 1, i => by
    unfold least
    by_cases h : p i = true
    · rw [if_pos h]; exact Nat.le_refl _
    · rw [if_neg h]
      have := least_ge p k (i + 1)
      omega
theorem least_hit (p : Nat → Bool) : ∀ k i, least p i k < i + k → p (least p i k) = true
  | 0, i, h => absurd h (by unfold least; omega)
  | k + 1, i, h => by
    unfold least at h ⊢
    by_cases q : p i = true
    · rw [if_pos q]; exact q
    · rw [if_neg q] at h ⊢
      exact least_hit p k (i + 1) (by omega)
theorem least_none {p : Nat → Bool} : ∀ k i, (∀ j, i ≤ j → j < i + k → p j = false) → least p i k = i + k
  | 0, i, _ => rfl
  | k + 1, i, h => by
    unfold least
    rw [if_neg (by rw [h i (Nat.le_refl _) (by omega)]; exact Bool.false_ne_true), least_none k (i + 1) (fun j h1 h2 => h j (by omega) (by omega))]
    omega
theorem least_skip {p : Nat → Bool} {i k : Nat} (h : p i = false) : least p i (k + 1) = least p (i + 1) k := by
  show (if p i = true then i else least p (i + 1) k) = _
  rw [if_neg (by rw [h]; exact Bool.false_ne_true)]
theorem least_now {p : Nat → Bool} {i k : Nat} (h : p i = true) : least p i (k + 1) = i := by
  show (if p i = true then i else least p (i + 1) k) = _
  rw [if_pos h]
theorem isFree_short {os : List Int} {n i : Nat} (h : os.length < i + n) (hn : 0 < n) : isFree os n i = false := by
  unfold isFree
  refine decide_eq_false fun e => ?_
  have q := congrArg List.length e
  rw [List.length_take, List.length_drop, List.length_replicate] at q
  omega
theorem isFree_get {os : List Int} {n i j : Nat} (h : isFree os n i = true) (h1 : i ≤ j) (h2 : j < i + n) : os[j]? = some (-1) := by
  unfold isFree at h
  have e := of_decide_eq_true h
  have q := congrArg (fun l : List Int => l[j - i]?) e
  simp only [List.getElem?_take, List.getElem?_drop, List.getElem?_replicate] at q
  rw [if_pos (by omega), if_pos (by omega)] at q
  rw [← q]
  congr 1
  omega
theorem isFree_fits {os : List Int} {n i : Nat} (h : isFree os n i = true) (hn : 0 < n) : i + n ≤ os.length := by
  by_cases q : os.length < i + n
  · rw [isFree_short q hn] at h
    cases h
  · omega
def firstFree (os : List Int) (n : Nat) : Nat := least (isFree os n) 0 os.length
theorem firstFree_le (os : List Int) (n : Nat) : firstFree os n ≤ os.length := by
  have := least_le (isFree os n) os.length 0
  unfold firstFree
  omega
theorem firstFree_hit {os : List Int} {n : Nat} (h : firstFree os n ≠ os.length) : isFree os n (firstFree os n) = true := by
  have := firstFree_le os n
  exact least_hit _ _ _ (by unfold firstFree at h this; omega)

/-! ### taking pages -/
def takeM (m : Mem) (n : Nat) (r : Int) : Mem :=
  let f := firstFree m.owners n
  { m with
    words := if f = m.owners.length then m.words ++ List.replicate (8 * n) 0 else m.words
    owners := fill (if f = m.owners.length then m.owners ++ List.replicate n (-1) else m.owners) f n r }
/-- a cell: its address, the memory behind it -/
def cellM (m : Mem) (i : Nat) (z : Reg) (w : Int) : Int × Mem :=
  if w > 8 then
    let m1 := takeM m ((w + 7) / 8).toNat i
    (8 * (firstFree m.owners ((w + 7) / 8).toNat : Int), { m1 with regs := m1.regs.set i { z with amt := z.amt + w } })
  else if z.room < w then
    let m1 := takeM m 1 i
    let p : Int := 8 * (firstFree m.owners 1 : Int)
    (p, { m1 with words := fill m1.words p.toNat w.toNat 0, regs := m1.regs.set i { z with amt := z.amt + w, place := p + w, room := 8 - w } })
  else
    (z.place, { m with words := fill m.words z.place.toNat w.toNat 0, regs := m.regs.set i { z with amt := z.amt + w, place := z.place + w, room := z.room - w } })
def endW (os : List Int) (r : Int) (ws : List Int) : Nat → List Int
  | 0 => ws
  | k + 1 => if os[k]? = some r then fill (endW os r ws k) (8 * k) 8 0 else endW os r ws k
def endO (os : List Int) (r : Int) (k : Nat) : List Int := (os.take k).map (fun o => if o = r then -1 else o) ++ os.drop k
def endM (m : Mem) (i : Nat) (z : Reg) : Mem :=
  { words := endW m.owners i m.words m.owners.length, owners := endO m.owners i m.owners.length, regs := m.regs.set i { z with lives := false } }
def ownerM (m : Mem) (a : Int) : Int := if 0 ≤ a ∧ a < m.words.length then m.owners.getD (a / 8).toNat (-1) else -1
def readM (m : Mem) (a : Int) : Int := if ownerM m a < 0 then 0 else m.words.getD a.toNat 0
def writeM (m : Mem) (a v : Int) : Mem := if 0 ≤ ownerM m a then { m with words := m.words.set a.toNat v } else m
def beginM (m : Mem) : Mem := { m with regs := m.regs ++ [⟨true, 0, 0, 0⟩] }
def openM (m : Mem) (r : Int) : Bool := decide (0 ≤ r ∧ r < m.regs.length) && (match m.regs[r.toNat]? with | some z => z.lives | none => false)
def heldM (m : Mem) : Int := (m.regs.map fun z => if z.lives then z.amt else 0).sum
def liveM (m : Mem) : List Int := (((List.range m.regs.length).filter fun i => match m.regs[i]? with | some z => z.lives | none => false).map fun i : Nat => (i : Int))

/-! ### what always holds -/
structure Wf (m : Mem) : Prop where
  len : m.words.length = 8 * m.owners.length
  own : ∀ (i : Nat) o, m.owners[i]? = some o → o = -1 ∨ (0 ≤ o ∧ o < m.regs.length)
  zero : ∀ (i k : Nat), m.owners[i]? = some (-1) → k < 8 → m.words[8 * i + k]? = some 0
  reg : ∀ (i : Nat) z, m.regs[i]? = some z → 0 ≤ z.place ∧ 0 ≤ z.room ∧ z.room ≤ 8 ∧ z.place + z.room ≤ m.words.length
/-- n deeds at most were done -/
structure Bd (m : Mem) (n : Nat) : Prop where
  pages : m.owners.length ≤ 5 * n
  regs : m.regs.length ≤ n

def emptyM : Mem := ⟨[], [], []⟩
theorem wf_empty : Wf emptyM := ⟨rfl, fun i o h => by simp [emptyM] at h, fun i k h _ => by simp [emptyM] at h, fun i z h => by simp [emptyM] at h⟩
theorem bd_empty : Bd emptyM 0 := ⟨Nat.le_refl _, Nat.le_refl _⟩
theorem Bd.mono {m : Mem} {n k : Nat} (b : Bd m n) (h : n ≤ k) : Bd m k := ⟨by have := b.pages; omega, by have := b.regs; omega⟩

/-! ### takeM -/
section take
variable {m : Mem} {n : Nat} {r : Int}
theorem takeM_regs : (takeM m n r).regs = m.regs := rfl
/-- the owners ahead of the giving -/
def preO (m : Mem) (n : Nat) : List Int := if firstFree m.owners n = m.owners.length then m.owners ++ List.replicate n (-1) else m.owners
def preW (m : Mem) (n : Nat) : List Int := if firstFree m.owners n = m.owners.length then m.words ++ List.replicate (8 * n) 0 else m.words
theorem takeM_eq : takeM m n r = { m with words := preW m n, owners := fill (preO m n) (firstFree m.owners n) n r } := rfl
theorem preO_fits (hn : 0 < n) : firstFree m.owners n + n ≤ (preO m n).length := by
  unfold preO
  by_cases h : firstFree m.owners n = m.owners.length
  · rw [if_pos h, List.length_append, List.length_replicate, h]
    exact Nat.le_refl _
  · rw [if_neg h]
    exact isFree_fits (firstFree_hit h) hn
theorem preO_len (hn : 0 < n) : m.owners.length ≤ (preO m n).length ∧ (preO m n).length ≤ m.owners.length + n := by
  unfold preO
  by_cases h : firstFree m.owners n = m.owners.length
  · rw [if_pos h, List.length_append, List.length_replicate]
    omega
  · rw [if_neg h]
    omega
theorem preW_len (w : Wf m) : (preW m n).length = 8 * (preO m n).length := by
  unfold preW preO
  by_cases h : firstFree m.owners n = m.owners.length
  · rw [if_pos h, if_pos h, List.length_append, List.length_append, List.length_replicate, List.length_replicate, w.len]
    omega
  · rw [if_neg h, if_neg h, w.len]
theorem preO_free {j : Nat} (h1 : firstFree m.owners n ≤ j) (h2 : j < firstFree m.owners n + n) : (preO m n)[j]? = some (-1) := by
  unfold preO
  by_cases h : firstFree m.owners n = m.owners.length
  · rw [if_pos h, List.getElem?_append_right (by omega), List.getElem?_replicate, if_pos (by omega)]
  · rw [if_neg h]
    exact isFree_get (firstFree_hit h) h1 h2
theorem pre_zero (w : Wf m) {i k : Nat} (h : (preO m n)[i]? = some (-1)) (hk : k < 8) : (preW m n)[8 * i + k]? = some 0 := by
  unfold preO at h
  unfold preW
  by_cases e : firstFree m.owners n = m.owners.length
  · rw [if_pos e] at h ⊢
    by_cases hi : i < m.owners.length
    · rw [List.getElem?_append_left hi] at h
      rw [List.getElem?_append_left (by rw [w.len]; omega)]
      exact w.zero i k h hk
    · rw [List.getElem?_append_right (by omega), List.getElem?_replicate] at h
      rw [List.getElem?_append_right (by rw [w.len]; omega), List.getElem?_replicate, w.len]
      by_cases q : i - m.owners.length < n
      · rw [if_pos (by omega)]
      · rw [if_neg q] at h
        cases h
  · rw [if_neg e] at h ⊢
    exact w.zero i k h hk
theorem preO_own (w : Wf m) {i : Nat} {o : Int} (h : (preO m n)[i]? = some o) : o = -1 ∨ (0 ≤ o ∧ o < m.regs.length) := by
  unfold preO at h
  by_cases e : firstFree m.owners n = m.owners.length
  · rw [if_pos e] at h
    by_cases hi : i < m.owners.length
    · rw [List.getElem?_append_left hi] at h
      exact w.own i o h
    · rw [List.getElem?_append_right (by omega), List.getElem?_replicate] at h
      by_cases q : i - m.owners.length < n
      · rw [if_pos q] at h
        exact .inl (Option.some.inj h).symm
      · rw [if_neg q] at h
        cases h
  · rw [if_neg e] at h
    exact w.own i o h
theorem preW_ge (w : Wf m) (hn : 0 < n) : m.words.length ≤ (preW m n).length := by
  rw [preW_len w, w.len]
  have := (preO_len (m := m) (n := n) hn).1
  omega
theorem wf_take (w : Wf m) (hn : 0 < n) (h0 : 0 ≤ r) (hr : r < m.regs.length) : Wf (takeM m n r) := by
  have fits := preO_fits (m := m) (n := n) hn
  rw [takeM_eq]
  refine ⟨?_, fun i o h => ?_, fun i k h hk => ?_, fun i z h => ?_⟩
  · show (preW m n).length = 8 * (fill _ _ _ _).length
    rw [fill_length fits, preW_len w]
  · have h : (fill (preO m n) (firstFree m.owners n) n r)[i]? = some o := h
    rw [fill_get fits] at h
    by_cases q : firstFree m.owners n ≤ i ∧ i < firstFree m.owners n + n
    · rw [if_pos q] at h
      have e := Option.some.inj h
      exact .inr ⟨by omega, by show o < m.regs.length; omega⟩
    · rw [if_neg q] at h
      exact preO_own w h
  · have h : (fill (preO m n) (firstFree m.owners n) n r)[i]? = some (-1) := h
    rw [fill_get fits] at h
    by_cases q : firstFree m.owners n ≤ i ∧ i < firstFree m.owners n + n
    · rw [if_pos q] at h
      have e := Option.some.inj h
      omega
    · rw [if_neg q] at h
      exact pre_zero w h hk
  · obtain ⟨a, b, c, d⟩ := w.reg i z h
    have := preW_ge w hn
    exact ⟨a, b, c, by show z.place + z.room ≤ ((preW m n).length : Int); omega⟩
theorem take_len (hn : 0 < n) : (takeM m n r).owners.length ≤ m.owners.length + n := by
  rw [takeM_eq]
  show (fill _ _ _ _).length ≤ _
  rw [fill_length (preO_fits hn)]
  exact (preO_len hn).2
theorem take_room (w : Wf m) (hn : 0 < n) : 8 * (firstFree m.owners n) + 8 * n ≤ (takeM m n r).words.length := by
  rw [takeM_eq]
  show _ ≤ (preW m n).length
  rw [preW_len w]
  have := preO_fits (m := m) (n := n) hn
  omega
theorem take_words (m : Mem) (n : Nat) (r : Int) : (takeM m n r).words = preW m n := rfl
/-- the given pages' words are 0 -/
theorem take_zero (w : Wf m) {j : Nat} (h1 : 8 * firstFree m.owners n ≤ j) (h2 : j < 8 * firstFree m.owners n + 8 * n) : (preW m n)[j]? = some 0 := by
  have e : j = 8 * (j / 8) + j % 8 := by omega
  rw [e]
  exact pre_zero w (preO_free (by omega) (by omega)) (by omega)
end take

theorem set_get? {α : Type} {l : List α} {i j : Nat} {x z : α} (h : (l.set i x)[j]? = some z) : (i = j ∧ z = x) ∨ (i ≠ j ∧ l[j]? = some z) := by
  rw [List.getElem?_set] at h
  by_cases e : i = j
  · rw [if_pos e] at h
    by_cases q : i < l.length
    · rw [if_pos q] at h
      exact .inl ⟨e, (Option.some.inj h).symm⟩
    · rw [if_neg q] at h
      cases h
  · rw [if_neg e] at h
    exact .inr ⟨e, h⟩
theorem wf_setReg {m : Mem} (w : Wf m) {i : Nat} {z : Reg} (h : 0 ≤ z.place ∧ 0 ≤ z.room ∧ z.room ≤ 8 ∧ z.place + z.room ≤ m.words.length) : Wf { m with regs := m.regs.set i z } :=
  ⟨w.len, fun j o e => by
    have := w.own j o e
    show o = -1 ∨ (0 ≤ o ∧ o < ((m.regs.set i z).length : Int))
    rw [List.length_set]
    exact this, w.zero, fun j y e => by
    rcases set_get? e with ⟨_, rfl⟩ | ⟨_, e⟩
    · exact h
    · exact w.reg j y e⟩
theorem wf_words {m : Mem} (w : Wf m) {ws : List Int} (hl : ws.length = m.words.length) (hz : ∀ (i k : Nat), m.owners[i]? = some (-1) → k < 8 → ws[8 * i + k]? = some 0) : Wf { m with words := ws } :=
  ⟨hl.trans w.len, w.own, hz, fun j y e => by
    have := w.reg j y e
    show 0 ≤ y.place ∧ 0 ≤ y.room ∧ y.room ≤ 8 ∧ y.place + y.room ≤ (ws.length : Int)
    rw [hl]
    exact this⟩
theorem wf_zeros {m : Mem} (w : Wf m) {i n : Nat} (h : i + n ≤ m.words.length) : Wf { m with words := fill m.words i n 0 } :=
  wf_words w (fill_length h) fun j k e hk => by
    rw [fill_get h]
    by_cases q : i ≤ 8 * j + k ∧ 8 * j + k < i + n
    · rw [if_pos q]
    · rw [if_neg q]
      exact w.zero j k e hk

/-! ### a cell -/
theorem cell_small (w : Int) (h : 1 ≤ w) (h8 : ¬ w > 8) : w.toNat ≤ 8 ∧ (w.toNat : Int) = w := by omega
theorem wf_cell {m : Mem} (w : Wf m) {i : Nat} {z : Reg} (hz : m.regs[i]? = some z) {k : Int} (hk : 1 ≤ k) : Wf (cellM m i z k).2 := by
  have hi : i < m.regs.length := (List.getElem?_eq_some_iff.mp hz).1
  obtain ⟨a, b, c, d⟩ := w.reg i z hz
  unfold cellM
  by_cases h8 : k > 8
  · rw [if_pos h8]
    have hn : 0 < ((k + 7) / 8).toNat := by omega
    have w1 := wf_take (r := (i : Int)) w hn (by omega) (by omega)
    refine wf_setReg w1 ⟨a, b, c, ?_⟩
    have := preW_ge (n := ((k + 7) / 8).toNat) w hn
    show z.place + z.room ≤ ((preW m ((k + 7) / 8).toNat).length : Int)
    omega
  · rw [if_neg h8]
    by_cases hr : z.room < k
    · rw [if_pos hr]
      have hn : 0 < 1 := by decide
      have w1 := wf_take (r := (i : Int)) w hn (by omega) (by omega)
      have rm := take_room (r := (i : Int)) w hn
      have hl : (fill (takeM m 1 i).words (8 * (firstFree m.owners 1 : Int)).toNat k.toNat 0).length = (takeM m 1 i).words.length := fill_length (by omega)
      refine wf_setReg (m := { takeM m 1 i with words := fill (takeM m 1 i).words (8 * (firstFree m.owners 1 : Int)).toNat k.toNat 0 }) (wf_zeros w1 (by omega)) ⟨?_, ?_, ?_, ?_⟩
      · show 0 ≤ 8 * (firstFree m.owners 1 : Int) + k
        omega
      · show 0 ≤ 8 - k
        omega
      · show 8 - k ≤ 8
        omega
      · show 8 * (firstFree m.owners 1 : Int) + k + (8 - k) ≤ ((fill (takeM m 1 i).words (8 * (firstFree m.owners 1 : Int)).toNat k.toNat 0).length : Int)
        rw [hl]
        omega
    · rw [if_neg hr]
      have hl : (fill m.words z.place.toNat k.toNat 0).length = m.words.length := fill_length (by omega)
      refine wf_setReg (m := { m with words := fill m.words z.place.toNat k.toNat 0 }) (wf_zeros w (by omega)) ⟨?_, ?_, ?_, ?_⟩
      · show 0 ≤ z.place + k
        omega
      · show 0 ≤ z.room - k
        omega
      · show z.room - k ≤ 8
        omega
      · show z.place + k + (z.room - k) ≤ ((fill m.words z.place.toNat k.toNat 0).length : Int)
        rw [hl]
        omega
theorem cell_len {m : Mem} {i : Nat} {z : Reg} {k : Int} (hk : 1 ≤ k) (h40 : k ≤ 40) : (cellM m i z k).2.owners.length ≤ m.owners.length + 5 ∧ (cellM m i z k).2.regs.length = m.regs.length := by
  unfold cellM
  by_cases h8 : k > 8
  · rw [if_pos h8]
    have hn : 0 < ((k + 7) / 8).toNat := by omega
    have q := take_len (m := m) (r := (i : Int)) hn
    refine ⟨?_, ?_⟩
    · show (takeM m ((k + 7) / 8).toNat i).owners.length ≤ _
      omega
    · show (m.regs.set i _).length = _
      rw [List.length_set]
  · rw [if_neg h8]
    by_cases hr : z.room < k
    · rw [if_pos hr]
      have q := take_len (m := m) (r := (i : Int)) (show 0 < 1 by decide)
      refine ⟨?_, ?_⟩
      · show (takeM m 1 i).owners.length ≤ _
        omega
      · show (m.regs.set i _).length = _
        rw [List.length_set]
    · rw [if_neg hr]
      refine ⟨Nat.le_add_right _ _, ?_⟩
      show (m.regs.set i _).length = _
      rw [List.length_set]

/-! ### the end of a region -/
theorem endO_len (os : List Int) (r : Int) (k : Nat) : (endO os r k).length = os.length := by
  unfold endO
  rw [List.length_append, List.length_map, List.length_take, List.length_drop]
  omega
theorem endO_get (os : List Int) (r : Int) (k j : Nat) : (endO os r k)[j]? = if j < k then (os[j]?).map (fun o => if o = r then -1 else o) else os[j]? := by
  unfold endO
  by_cases hj : j < k
  · rw [if_pos hj]
    by_cases hl : j < os.length
    · rw [List.getElem?_append_left (by rw [List.length_map, List.length_take]; omega), List.getElem?_map, List.getElem?_take_of_lt hj]
    · have e : os[j]? = none := List.getElem?_eq_none_iff.mpr (by omega)
      rw [e, List.getElem?_eq_none_iff.mpr (by rw [List.length_append, List.length_map, List.length_take, List.length_drop]; omega)]
      rfl
  · rw [if_neg hj]
    by_cases hl : k ≤ os.length
    · have e : (List.map (fun o => if o = r then -1 else o) (List.take k os)).length = k := by rw [List.length_map, List.length_take]; omega
      rw [List.getElem?_append_right (by rw [e]; omega), e, List.getElem?_drop]
      congr 1
      omega
    · rw [List.getElem?_eq_none_iff.mpr (by rw [List.length_append, List.length_map, List.length_take, List.length_drop]; omega), List.getElem?_eq_none_iff.mpr (by omega)]
theorem endO_zero (os : List Int) (r : Int) : endO os r 0 = os := rfl
theorem endO_hit {os : List Int} {r : Int} {k : Nat} (h : os[k]? = some r) : (endO os r k).set k (-1) = endO os r (k + 1) := by
  have hl := (List.getElem?_eq_some_iff.mp h).1
  apply ext_get
  intro j
  rw [List.getElem?_set, endO_get, endO_get, endO_len]
  by_cases e : k = j
  · subst e
    rw [if_pos rfl, if_pos hl, if_pos (by omega), h]
    show some (-1) = some (if r = r then -1 else r)
    rw [if_pos rfl]
  · rw [if_neg e]
    by_cases q : j < k
    · rw [if_pos q, if_pos (by omega)]
    · rw [if_neg q, if_neg (by omega)]
theorem endO_miss {os : List Int} {r : Int} {k : Nat} (h : os[k]? ≠ some r) : endO os r (k + 1) = endO os r k := by
  apply ext_get
  intro j
  rw [endO_get, endO_get]
  by_cases q : j < k
  · rw [if_pos q, if_pos (by omega)]
  · rw [if_neg q]
    by_cases e : j = k
    · subst e
      rw [if_pos (by omega)]
      cases g : os[j]? with
      | none => rfl
      | some o =>
        show some (if o = r then -1 else o) = some o
        rw [if_neg fun z => h (by rw [g, z])]
    · rw [if_neg (by omega)]
theorem endW_len {os : List Int} {r : Int} {ws : List Int} : ∀ {k : Nat}, 8 * k ≤ ws.length → (endW os r ws k).length = ws.length
  | 0, _ => rfl
  | k + 1, h => by
    have ih := endW_len (os := os) (r := r) (ws := ws) (k := k) (by omega)
    unfold endW
    by_cases e : os[k]? = some r
    · rw [if_pos e, fill_length (by rw [ih]; omega), ih]
    · rw [if_neg e, ih]
theorem endW_hit {os : List Int} {r : Int} {ws : List Int} {k : Nat} (h : os[k]? = some r) : endW os r ws (k + 1) = fill (endW os r ws k) (8 * k) 8 0 := by
  show (if os[k]? = some r then _ else _) = _
  rw [if_pos h]
theorem endW_miss {os : List Int} {r : Int} {ws : List Int} {k : Nat} (h : os[k]? ≠ some r) : endW os r ws (k + 1) = endW os r ws k := by
  show (if os[k]? = some r then _ else _) = _
  rw [if_neg h]
theorem endW_get {os : List Int} {r : Int} {ws : List Int} : ∀ {k : Nat}, 8 * k ≤ ws.length → ∀ i j : Nat, j < 8 → (endW os r ws k)[8 * i + j]? = if i < k ∧ os[i]? = some r then some 0 else ws[8 * i + j]?
  | 0, _, i, j, _ => by
    rw [if_neg (by omega)]
    rfl
  | k + 1, h, i, j, hj => by
    have ih := endW_get (os := os) (r := r) (ws := ws) (k := k) (by omega) i j hj
    by_cases e : os[k]? = some r
    · rw [endW_hit e, fill_get (by rw [endW_len (by omega)]; omega), ih]
      by_cases q : 8 * k ≤ 8 * i + j ∧ 8 * i + j < 8 * k + 8
      · have ik : i = k := by omega
        subst ik
        rw [if_pos q, if_pos ⟨by omega, e⟩]
      · rw [if_neg q]
        by_cases g : i < k ∧ os[i]? = some r
        · rw [if_pos g, if_pos ⟨by omega, g.2⟩]
        · rw [if_neg g, if_neg fun z => g ⟨by omega, z.2⟩]
    · rw [endW_miss e, ih]
      by_cases g : i < k ∧ os[i]? = some r
      · rw [if_pos g, if_pos ⟨by omega, g.2⟩]
      · rw [if_neg g, if_neg fun z => g ⟨by
          have : i ≠ k := fun y => e (by rw [← y]; exact z.2)
          omega, z.2⟩]
theorem wf_end {m : Mem} (w : Wf m) {i : Nat} {z : Reg} (hz : m.regs[i]? = some z) : Wf (endM m i z) := by
  have hl := w.len
  have el := endW_len (os := m.owners) (r := (i : Int)) (ws := m.words) (k := m.owners.length) (by omega)
  refine ⟨?_, fun j o h => ?_, fun j k h hk => ?_, fun j y h => ?_⟩
  · show (endW _ _ _ _).length = 8 * (endO _ _ _).length
    rw [el, endO_len, hl]
  · have h : (endO m.owners i m.owners.length)[j]? = some o := h
    show o = -1 ∨ (0 ≤ o ∧ o < ((m.regs.set i _).length : Int))
    rw [List.length_set]
    rw [endO_get] at h
    by_cases q : j < m.owners.length
    · rw [if_pos q] at h
      cases g : m.owners[j]? with
      | none =>
        rw [g] at h
        cases h
      | some u =>
        rw [g] at h
        have h : some (if u = (i : Int) then -1 else u) = some o := h
        by_cases e : u = (i : Int)
        · rw [if_pos e] at h
          exact .inl (Option.some.inj h).symm
        · rw [if_neg e] at h
          rw [← Option.some.inj h]
          exact w.own j u g
    · rw [if_neg q] at h
      exact w.own j o h
  · have h : (endO m.owners i m.owners.length)[j]? = some (-1) := h
    show (endW m.owners i m.words m.owners.length)[8 * j + k]? = some 0
    rw [endW_get (by omega) j k hk]
    rw [endO_get] at h
    by_cases q : j < m.owners.length
    · rw [if_pos q] at h
      cases g : m.owners[j]? with
      | none =>
        rw [g] at h
        cases h
      | some u =>
        rw [g] at h
        have h : some (if u = (i : Int) then -1 else u) = some (-1) := h
        by_cases e : u = (i : Int)
        · rw [if_pos ⟨q, by rw [e]⟩]
        · rw [if_neg e] at h
          rw [if_neg fun y => e (Option.some.inj y.2)]
          exact w.zero j k (by rw [g]; exact h) hk
    · rw [if_neg q] at h
      have := (List.getElem?_eq_some_iff.mp h).1
      exact absurd this q
  · have h : (m.regs.set i { z with lives := false })[j]? = some y := h
    show 0 ≤ y.place ∧ 0 ≤ y.room ∧ y.room ≤ 8 ∧ y.place + y.room ≤ ((endW m.owners i m.words m.owners.length).length : Int)
    rw [el]
    rcases set_get? h with ⟨_, rfl⟩ | ⟨_, e⟩
    · exact w.reg i z hz
    · exact w.reg j y e
theorem end_len (m : Mem) (i : Nat) (z : Reg) : (endM m i z).owners.length = m.owners.length ∧ (endM m i z).regs.length = m.regs.length :=
  ⟨endO_len _ _ _, List.length_set ..⟩

/-! ### begin, read, write -/
theorem wf_begin {m : Mem} (w : Wf m) : Wf (beginM m) :=
  ⟨w.len, fun i o h => by
    have := w.own i o h
    show o = -1 ∨ (0 ≤ o ∧ o < ((m.regs ++ [⟨true, 0, 0, 0⟩] : List Reg).length : Int))
    rw [List.length_append, List.length_singleton]
    omega, w.zero, fun i z h => by
    have h : (m.regs ++ [⟨true, 0, 0, 0⟩])[i]? = some z := h
    by_cases q : i < m.regs.length
    · rw [List.getElem?_append_left q] at h
      exact w.reg i z h
    · rw [List.getElem?_append_right (by omega)] at h
      have hlt := (List.getElem?_eq_some_iff.mp h).1
      rw [List.length_singleton] at hlt
      have e0 : i - m.regs.length = 0 := by omega
      rw [e0] at h
      have e : (⟨true, 0, 0, 0⟩ : Reg) = z := Option.some.inj h
      subst e
      exact ⟨Int.le_refl 0, Int.le_refl 0, by decide, by show (0 : Int) + 0 ≤ (m.words.length : Int); omega⟩⟩
theorem begin_len (m : Mem) : (beginM m).owners.length = m.owners.length ∧ (beginM m).regs.length = m.regs.length + 1 :=
  ⟨rfl, by show (m.regs ++ _).length = _; rw [List.length_append, List.length_singleton]⟩
theorem owner_in {m : Mem} (w : Wf m) {a : Int} (h0 : 0 ≤ a) (h1 : a < m.words.length) : ∃ o, m.owners[(a / 8).toNat]? = some o ∧ ownerM m a = o := by
  have hl := w.len
  have hi : (a / 8).toNat < m.owners.length := by omega
  refine ⟨m.owners[(a / 8).toNat], List.getElem?_eq_getElem hi, ?_⟩
  unfold ownerM
  rw [if_pos ⟨h0, h1⟩, List.getD_eq_getElem?_getD, List.getElem?_eq_getElem hi]
  rfl
theorem owner_out {m : Mem} {a : Int} (h : ¬ (0 ≤ a ∧ a < m.words.length)) : ownerM m a = -1 := by
  unfold ownerM
  rw [if_neg h]
theorem owner_has {m : Mem} (w : Wf m) {a : Int} (h : 0 ≤ ownerM m a) : 0 ≤ a ∧ a < m.words.length ∧ m.owners[(a / 8).toNat]? ≠ some (-1) := by
  by_cases q : 0 ≤ a ∧ a < m.words.length
  · obtain ⟨o, h1, h2⟩ := owner_in w q.1 q.2
    refine ⟨q.1, q.2, fun e => ?_⟩
    rw [h1] at e
    have := Option.some.inj e
    omega
  · rw [owner_out q] at h
    omega
theorem owner_ge {m : Mem} (w : Wf m) (a : Int) : -1 ≤ ownerM m a := by
  by_cases q : 0 ≤ a ∧ a < m.words.length
  · obtain ⟨o, h1, h2⟩ := owner_in w q.1 q.2
    have := w.own _ o h1
    omega
  · rw [owner_out q]
    omega
theorem read_in {m : Mem} (w : Wf m) {a : Int} (h : ¬ ownerM m a < 0) : m.words[a.toNat]? = some (readM m a) ∧ 0 ≤ a := by
  obtain ⟨h0, h1, _⟩ := owner_has (a := a) w (by omega)
  have hi : a.toNat < m.words.length := by omega
  refine ⟨?_, h0⟩
  unfold readM
  rw [if_neg h, List.getD_eq_getElem?_getD, List.getElem?_eq_getElem hi]
  rfl
theorem wf_write {m : Mem} (w : Wf m) (a v : Int) : Wf (writeM m a v) := by
  unfold writeM
  by_cases h : 0 ≤ ownerM m a
  · rw [if_pos h]
    obtain ⟨h0, h1, h2⟩ := owner_has w h
    refine wf_words w (List.length_set ..) fun i k e hk => ?_
    rw [List.getElem?_set_ne]
    · exact w.zero i k e hk
    · intro z
      refine h2 ?_
      have : (a / 8).toNat = i := by omega
      rw [this]
      exact e
  · rw [if_neg h]
    exact w
theorem write_len (m : Mem) (a v : Int) : (writeM m a v).owners.length = m.owners.length ∧ (writeM m a v).regs.length = m.regs.length := by
  unfold writeM
  by_cases h : 0 ≤ ownerM m a
  · rw [if_pos h]
    exact ⟨rfl, rfl⟩
  · rw [if_neg h]
    exact ⟨rfl, rfl⟩
end Esc

/-! The text by places. -/
namespace Esc
open PySem L2
def top (i : Nat) : Stmt := PySem.Challenge.pw_escheat_k50_whole_store_model.main.body.getD i (.Pass ⟨0, 0, 0, 0⟩)
abbrev sSe : Stmt := inClass (top 2) 0
abbrev sIsInt : Stmt := top 4
abbrev sReg : Stmt := inClass (top 7) 0
abbrev sStore : Stmt := inClass (top 8) 0
abbrev sRecord : Stmt := inClass (top 8) 1
abbrev sIsCur : Stmt := inClass (top 8) 2
abbrev sBegin : Stmt := inClass (top 8) 3
abbrev sTake : Stmt := inClass (top 8) 4
abbrev sCell : Stmt := inClass (top 8) 5
abbrev sEnd : Stmt := inClass (top 8) 6
abbrev sOwner : Stmt := inClass (top 8) 7
abbrev sRead : Stmt := inClass (top 8) 8
abbrev sWrite : Stmt := inClass (top 8) 9
abbrev sCurrent : Stmt := inClass (top 8) 10
abbrev sHeld : Stmt := inClass (top 8) 11
abbrev sPages : Stmt := inClass (top 8) 12
abbrev sWaiting : Stmt := inClass (top 8) 13
abbrev sLen : Stmt := inClass (top 8) 14
abbrev sIter : Stmt := inClass (top 8) 15
abbrev sContains : Stmt := inClass (top 8) 16
abbrev lStart : Stmt := top 10
abbrev lDraw : Stmt := top 11
abbrev lNew : Stmt := top 12
abbrev lBegin : Stmt := top 13
abbrev lPages : Stmt := top 14
abbrev lPagesFor : Stmt := top 15
abbrev lCell : Stmt := top 16
abbrev lEnd : Stmt := top 17
abbrev lOwner : Stmt := top 18
abbrev lRead : Stmt := top 19
abbrev lWrite : Stmt := top 20
abbrev lHeld : Stmt := top 21
abbrev lIsInt : Stmt := top 22
abbrev lSame : Stmt := top 23
abbrev lAddress : Stmt := top 24
abbrev lRegion : Stmt := top 25
abbrev lOpen : Stmt := top 26
abbrev lMake : Stmt := top 27
abbrev lDeed : Stmt := top 28
abbrev lLaw : Stmt := top 29
end Esc

/-! Rules that the layer lacks: o[i:j] = list; len(o), x in o, list(o) of an own class. -/
namespace EscR
open PySem PySem.Spec PyProof.Rows L2

/-! ### o[i:j] = a list -/
def gSlc (to : TE) (tl th : TO) : TG := fun v σ H Q => to σ H fun x H1 => tl σ H1 fun lo H2 => th σ H2 fun hi H3 => ∃ (p q : Addr) (xs ys : List V) (a c : Int),
  x = .ref p ∧ v = .ref q ∧ lo = some a ∧ hi = some c ∧ H3 p = some (.lst xs) ∧ H3 q = some (.lst ys) ∧ p ≠ q ∧ 0 ≤ a ∧ a ≤ c ∧ c ≤ xs.length ∧ xs.length + ys.length ≤ sizeLine ∧ Q σ (upd H3 p (.lst (xs.take a.toNat ++ ys ++ xs.drop c.toNat)))
section
variable {X : Cx} {o : Expr} {lo hi : Option Expr} {to : TE} {tl th : TO} {pos p2 : Pos}
theorem pg_slice (ho : PE X o to) (hl : PO X lo tl) (hu : PO X hi th)
    (ha : ∀ v, assign (.Subscript o (.Slice lo hi none p2) pos) X.env v = (do
      let ov ← holding [v] (eval o X.env)
      let iv ← holding [v, ov] (eval (.Slice lo hi none p2) X.env)
      standAt pos
      holding [v, ov, iv] (setItem ov iv v)
      release [iv, v, ov] []) := by intro _; rfl) : PG X (.Subscript o (.Slice lo hi none p2) pos) (gSlc to tl th) := by
  refine ⟨fun pins s σ H v u Q I r h => ?_⟩
  rw [ha]
  refine wpAny_bind (wpAny_holding (thn (ho.run pins s σ H _ I h) fun ov s1 ⟨x, H1, I1, r1, q1⟩ => ?_))
  refine wpAny_bind (wpAny_holding ?_)
  refine wpAny_Slice (thn (hl.run pins s1 σ H1 _ I1 q1) fun vl s2 ⟨l, H2, I2, pl, q2⟩ => thn (hu.run pins s2 σ H2 _ I2 q2) fun vu s3 ⟨u', H3, I3, pu, q3⟩ => ?_)
  rw [evalPart_none]
  refine wpAny_pure ?_
  obtain ⟨p, q, xs, ys, a, c, e1, e2, e3, e4, hp, hq, npq, h0, hac, hc, hz, q4⟩ := q3
  subst e1 e2 e3 e4
  have I4 : Inv X pins σ H3 { s3 with heap := s3.heap.push { cls := .type "slice", data := .fields #[vl, vu, .none] } } := I3.kept (t' := s3.toks) fun b ob z => Heap.get?_push_of_some _ z
  obtain rfl : ov = Value.ref p := r1
  obtain rfl : u = Value.ref q := r
  have ra : RelV (.int a) vl := by cases pl; exact ⟨_, rfl⟩
  have rc : RelV (.int c) vu := by cases pu; exact ⟨_, rfl⟩
  refine wpAny_bind (wpAny_standAt (wpAny_bind (wpAny_holding ?_)))
  refine set_slice I4 hp hq npq (Heap.IsSliceOf.new ..) ra rc h0 hac hc hz fun s5 I5 => ?_
  exact wpAny_release ⟨σ, _, I5, q4⟩
end

/-! ### len(o), x in o -/
section
variable {X : Cx} {CX : CXT} {k : Nat} {C g : Addr} {fd : FuncData} {ps : List Str} {sp : Sp} {E : XK}
/-- a callee below the running body -/
theorem run_sub {pins : List (Addr × Obj)} {σ : L2.St} {H : Hp} {s : Shared} {A1 : Around} {Q : VK} {us : List Value} {vs : List V} (F : FnOk X.prog X.w X.K X.mg X.base CX k g fd ps sp) (hr : Room k A1) (fr : A1.frames = X.A.frames) (hb : Binds X.K fd ps []) (hx : Passes CX X E)
    (I : Inv X pins σ H s) (r : Vals vs us) (h : sp vs H Q E) : wpAny (model X.prog X.w) A1 (call (.ref g) us) (EP X pins σ Q) X.xe s := by
  have hl : us.length = ps.length := by rw [← r.length]; exact F.len _ _ _ _ h
  have b := hb s us I.kIn (by rw [List.append_nil]; exact hl)
  rw [List.append_nil] at b
  have e0 : Env0 X.prog X.w X.K X.mg X.base A1 X.stack s H := by
    have e := I.env0
    exact ⟨by rw [fr]; exact e.frames, e.mod, e.bs, e.bsz, e.funs, e.frf, e.hok, e.bare⟩
  refine wpAny_call (codeAny_mono (F.run A1 X.stack s H ⟨us, []⟩ us vs Q E hr e0 b r h) fun r s' hq => ?_)
  cases r with
  | error e => exact hx pins σ H s e s' I hq
  | ok fl =>
    cases fl with
    | ret u => exact I.after hq
    | next => exact False.elim hq
    | brk => exact False.elim hq
    | cont => exact False.elim hq
/-- len(o), o an instance of the class at C whose __len__ is at g -/
def rLenO (C : Addr) (sp : Sp) (E : XK) : List V → Hp → VK → Prop := fun xs H Q => ∃ a dx fs, xs = [.ref a] ∧ H a = some (.ins C dx fs) ∧ sp [.ref a] H (fun z H' => ∃ i : Int, z = .int i ∧ 0 ≤ i ∧ i < 2 ^ 63 ∧ Q z H') E
theorem call_lenO (hs : PySem.W.findIn X.K (.ref C) "__len__" = some (some (.ref g))) (hf : PySem.W.isFn X.K (.ref g) = true) (F : FnOk X.prog X.w X.K X.mg X.base CX k g fd ps sp) (hb : Binds X.K fd ps []) (hr : Room (k + 1) X.A) (hx : Passes CX X E) :
    CallR X (.builtin "len") (rLenO C sp E) := by
  intro pins s σ H xs us Q I r h
  obtain ⟨a, dx, fs, rfl, ha, q⟩ := h
  obtain ⟨u, rfl, ru⟩ := r.one
  cases (show u = Value.ref a from ru)
  obtain ⟨mA, J, _⟩ := ins_get I.hok ha
  obtain ⟨od, J, _⟩ := J.look
  obtain ⟨m, hF⟩ := I.fr
  refine PySem.W.len_K hF I.ok.mod.kin J hs hf (wpAny_mono (run_sub (us := [.ref a]) (vs := [.ref a]) F hr.in1 rfl hb hx I (.cons rfl .nil) q) (fun w s' z => ?_) fun _ _ x => x)
  obtain ⟨z', H', I', rz, i, ei, h0, h1, qz⟩ := z
  subst ei
  obtain ⟨t, e⟩ := (show ∃ t, w = Value.int i t from rz)
  cases e
  exact ⟨⟨h0, h1⟩, .int i, H', I'.tok _, ⟨_, rfl⟩, qz⟩
/-- x in o -/
def rInO (C : Addr) (sp : Sp) (E : XK) : R2 := fun x y H Q => ∃ a dx fs, y = .ref a ∧ H a = some (.ins C dx fs) ∧ sp [.ref a, x] H (fun z H' => ∃ b : Bool, z = .bl b ∧ Q z H') E
theorem op_inO (hs : PySem.W.findIn X.K (.ref C) "__contains__" = some (some (.ref g))) (hf : PySem.W.isFn X.K (.ref g) = true) (F : FnOk X.prog X.w X.K X.mg X.base CX k g fd ps sp) (hb : Binds X.K fd ps []) (hr : Room k X.A) (hx : Passes CX X E) :
    OpR X (compareOp .In) (rInO C sp E) := by
  intro pins s σ H x y v u Q I rx ry h
  obtain ⟨a, dx, fs, rfl, ha, q⟩ := h
  cases (show u = Value.ref a from ry)
  obtain ⟨mA, J, _⟩ := ins_get I.hok ha
  obtain ⟨od, J, _⟩ := J.look
  obtain ⟨m, hF⟩ := I.fr
  refine PySem.W.in_K hF I.ok.mod.kin J hs hf (wpAny_mono (run_sub (us := [.ref a, v]) (vs := [.ref a, x]) F hr rfl hb hx I (.cons rfl (.cons rx .nil)) q) (fun w s' z => ?_) fun _ _ x => x)
  obtain ⟨z', H', I', rz, b, eb, qz⟩ := z
  subst eb
  obtain rfl : w = Value.bool b := rz
  exact wpAny_truthy_bool ⟨.bl b, H', I', rfl, qz⟩
end
end EscR

/-! list(o), o an instance of an own class whose __iter__ hands back the iterator of a list, with an own __len__. -/
namespace EscR
open PySem PySem.Spec PyProof.Rows L2

section
variable {prog : Program} {w : World} {A : Around} {E : Value → Shared → Prop} {s : Shared} {it l : Addr} {i : Nat} {items : Array Value}
theorem pyNext_endE {Q : Option Value → Shared → Prop} (hh : A.handled = none) (ho : s.heap.get? it = some (GNX.itObj l i)) (hl : s.heap.IsList l items) (hx : items[i]? = none)
    (hQ : ∀ h1 h', h1.get? it = some (GNX.itEnd i) → Heap.SameBut it s.heap h1 → (∀ b o, h1.get? b = some o → h'.get? b = some o) → Q none { s with heap := h' }) : wpAny (model prog w) A (pyNext (.ref it)) Q E s := by
  have hit : s.heap.IsListIter it l i := ⟨_, ho, rfl, rfl⟩
  unfold pyNext
  refine wpAny_bind (wpAny_attempt (wpAny_callSpecial?_slot (name := Str.ofString "__next__") hit.typeIs slot_listiter_next
    (wpAny_call_entry slot_listiter_next hit.typeIs entry_listiter_next ?_ (args_listiter_next _))))
  refine wpAny_mono (GNX.next_end (Q := fun _ _ => False) (E := fun e s' => ∃ h1 h' vs, h1.get? it = some (GNX.itEnd i) ∧ Heap.SameBut it s.heap h1 ∧ (∀ b o, h1.get? b = some o → h'.get? b = some o) ∧ (∃ a, e = .ref a ∧ h'.get? a = some { cls := .type "StopIteration", data := .fields vs }) ∧ s' = { s with heap := h' }) hh ho hl hx
    fun h1 h' e vs e1 sb k ne he hv => ⟨h1, h', vs, e1, sb, k, ⟨e, rfl, he⟩, rfl⟩) (fun fin s' hf => ?_) fun e s' he => ?_
  · obtain ⟨_, _, z⟩ := hf
    exact z.elim
  · obtain ⟨h1, h', vs, e1, sb, k, ⟨a, rfl, ha⟩, rfl⟩ := he
    refine wpAny_bind (wpAny_isInstance (T := "StopIteration") (b := true) ⟨_, ha, rfl⟩ isSubtype_stop ?_)
    exact wpAny_pure (hQ h1 h' e1 sb k)
end

section
variable {X : Cx} {pins : List (Addr × Obj)} {σ : L2.St} {A1 : Around} {l it q : Addr} {xs : List V} {H2 : Hp}
/-- the list at q is filled from the iterator at it -/
theorem it_loop {Rs : Result → Shared → Prop} (hh : A1.handled = none) (hlq : l ≠ q) (hiq : it ≠ q)
    (hdone : ∀ H' s', Inv X pins σ H' s' → (∀ b, b ≠ it → b ≠ q → H' b = H2 b) → H' q = some (.lst xs) → Rs (.ok (.ret .none)) s') :
    ∀ (n i : Nat) (H : Hp) (s : Shared), i + n = xs.length → Inv X pins σ H s → H l = some (.lst xs) → H it = some (ItO l it i) → H q = some (.lst (xs.take i)) → (∀ b, b ≠ it → b ≠ q → H b = H2 b) →
      codeAny (model X.prog X.w) A1 (.builtin "list.extend.loop" ⟨[.ref q, .ref it, .none], []⟩) Rs s
  | 0, i, H, s, hn, I, hl, hi, hq, hs => by
    obtain ⟨z, its, k, r, hlen, e⟩ := I.lstM hl
    refine codeAny_builtin PySem.F.entry_extend_loop ?_
    rw [Around.under_plainId PySem.F.plain_extend_loop _]
    show wpAny _ A1.in1 (pyNext (.ref it) >>= _) _ _ s
    refine wpAny_bind (pyNext_endE (A := A1.in1) hh (itO_get I hi) ⟨_, e, rfl, k, rfl⟩ (by rw [List.getElem?_toArray]; exact List.getElem?_eq_none_iff.mpr (by omega)) fun h1 h' e1 sb kk => ?_)
    have I2 : Inv X pins σ (upd H it (ItE it i)) { s with heap := h1 } := I.write (x := it) (e := it) (t' := s.toks) (by rw [hi]; exact True.intro) (.inl rfl) (fun b o nb z => (sb.2 b nb).trans z) ⟨_, e1⟩ (itE_ok e1)
    have I3 : Inv X pins σ (upd H it (ItE it i)) { s with heap := h' } := I2.kept (t' := s.toks) kk
    refine wpAny_pure (hdone _ _ I3 (fun b b1 b2 => by rw [upd_ne b1]; exact hs b b1 b2) ?_)
    rw [upd_ne (Ne.symm hiq), hq, List.take_of_length_le (by omega)]
  | n + 1, i, H, s, hn, I, hl, hi, hq, hs => by
    obtain ⟨z, its, k, r, hlen, e⟩ := I.lstM hl
    have hlt : i < xs.length := by omega
    obtain ⟨u, hu, ru⟩ := r.get (List.getElem?_eq_getElem hlt)
    refine codeAny_builtin PySem.F.entry_extend_loop ?_
    rw [Around.under_plainId PySem.F.plain_extend_loop _]
    show wpAny _ A1.in1 (pyNext (.ref it) >>= _) _ _ s
    have hit : s.heap.IsListIter it l i := ⟨_, itO_get I hi, rfl, rfl⟩
    have hIL : s.heap.IsList l its.toArray := ⟨_, e, rfl, k, rfl⟩
    have go : ∀ h', h'.get? it = some (GNX.itObj l (i + 1)) → Heap.SameBut it s.heap h' → Inv X pins σ (upd H it (ItO l it (i + 1))) { s with heap := h' } := fun h' e' sb =>
      I.write (x := it) (e := it) (t' := s.toks) (by rw [hi]; exact True.intro) (.inl rfl) (fun b o nb z => (sb.2 b nb).trans z) ⟨_, e'⟩ (itO_ok e')
    unfold pyNext
    refine wpAny_bind (wpAny_bind (wpAny_attempt (wpAny_callSpecial?_slot (name := Str.ofString "__next__") hit.typeIs slot_listiter_next
      (wpAny_call_entry slot_listiter_next hit.typeIs entry_listiter_next ?_ (args_listiter_next _)))))
    refine wpAny_mono (GNX.next_item (Q := fun x s' => x = u ∧ ∃ h', h'.get? it = some (GNX.itObj l (i + 1)) ∧ Heap.SameBut it s.heap h' ∧ s' = { s with heap := h' }) (itO_get I hi) hIL (by rw [List.getElem?_toArray]; exact hu)
      fun h' e' sb => ⟨rfl, h', e', sb, rfl⟩) (fun fin s' hf => ?_) fun _ _ z => z
    obtain ⟨v, rfl, rfl, h', e', sb, rfl⟩ := hf
    refine ⟨v, rfl, wpAny_pure ?_⟩
    have I2 := go h' e' sb
    have hq2 : upd H it (ItO l it (i + 1)) q = some (.lst (xs.take i)) := by rw [upd_ne (Ne.symm hiq)]; exact hq
    obtain ⟨z3, its3, k3, r3, hl3, e3⟩ := I2.lstM hq2
    show wpAny _ A1.in1 (updateSeq q (·.push v) >>= _) _ _ _
    have tl : (xs.take i).length = i := by rw [List.length_take]; omega
    refine wpAny_bind (wpAny_updateSeq e3 rfl (wpAny_pure ⟨plainId_quiet PySem.F.plain_extend_loop _, ?_⟩) (by rw [List.size_toArray]; omega) (by show (its3.toArray.push v).size ≤ sizeLine + 1; rw [Array.size_push, List.size_toArray]; omega))
    have I3 := I2.lset (its' := its3 ++ [v]) (ys := xs.take (i + 1)) (f := (·.push v)) (t' := s.toks) hq2 e3 (by simp) (by rw [List.take_succ, List.getElem?_eq_getElem hlt]; exact r3.append (.cons ru .nil)) (by rw [List.length_take]; omega)
    have nl : l ≠ it := ne_of hl hi (fun z => nomatch z)
    exact it_loop hh hlq hiq hdone n (i + 1) _ _ (by omega) I3 (by rw [upd_ne hlq, upd_ne nl]; exact hl) (by rw [upd_ne hiq, upd_same]) upd_same fun b b1 b2 => by rw [upd_ne b2, upd_ne b1]; exact hs b b1 b2
end

/-- the length hint by an own __len__ -/
theorem hint_len {M : Model} {A : Around} {s : Shared} {E : Value → Shared → Prop} {Q : Bool → Shared → Prop} {K : PySem.W.Frag} {a C g : Addr} {ox : Obj} {od : Option Obj} (hs : PySem.W.findIn K (.ref C) "__len__" = some (some (.ref g))) (hK : K.In s.heap) (J : PySem.W.InstAt s.heap a ox C od)
    (h : wpAny M A (call (.builtin "len") [.ref a]) (fun v s' => ∃ (n : Int) (t : Tok), v = .int n t ∧ 0 ≤ n ∧ n ≤ sizeLine ∧ Q (n != 0) s') (fun _ _ => False) s) :
    wpAny M A (Builtin.List.listLengthHint (.ref a)) Q E s := by
  unfold Builtin.List.listLengthHint
  refine wpAny_bind (wpAny_bind (J.type.here ((PySem.W.looks_findIn hK hs).here ?_)))
  refine PySem.W.KFB.if_not rfl ?_
  refine PySem.W.KFB.if_so rfl ?_
  refine wpAny_bind (wpAny_rule ?_)
  refine wpAny_bind (wpAny_attempt (wpAny_mono h (fun v s' hv => ?_) fun _ _ z => z.elim))
  obtain ⟨n, t, rfl, h0, h1, hq⟩ := hv
  have hl : Builtin.List.listTooLong n.toNat = false := notLongL (by omega)
  show wpAny M A (asInt? (.int n t) >>= _) _ _ _
  refine wpAny_bind (wpAny_of_eq (a := some n) (by rfl) ?_)
  dsimp only
  rw [hl]
  exact PySem.W.KFB.if_not rfl (wpAny_pure hq)

section
variable {X : Cx} {CI CL : CXT} {C fi fl : Addr} {fdI fdL : FuncData} {psI psL : List Str} {spI spL : Sp} {EI EL : XK} {n : Nat}
/-- list(o) -/
def rListO (C : Addr) (spI spL : Sp) (EI EL : XK) : List V → Hp → VK → Prop := fun xs H Q => ∃ a dx fs, xs = [.ref a] ∧ H a = some (.ins C dx fs) ∧ ∀ q, H q = none →
  spI [.ref a] (upd H q (.lst [])) (fun v H1 => ∃ (it l : Addr) (zs : List V), v = .ref it ∧ H1 it = some (ItO l it 0) ∧ H1 l = some (.lst zs) ∧ l ≠ q ∧ H1 q = some (.lst []) ∧ (∃ dx' fs', H1 a = some (.ins C dx' fs')) ∧
    spL [.ref a] H1 (fun z H2 => (∃ i : Int, z = .int i ∧ 0 ≤ i ∧ i ≤ sizeLine) ∧ H2 = H1 ∧ ∀ H3, (∀ b, b ≠ it → b ≠ q → H3 b = H1 b) → H3 q = some (.lst zs) → Q (.ref q) H3) EL) EI
theorem call_listO (hi : PySem.W.findIn X.K (.ref C) "__iter__" = some (some (.ref fi))) (hif : PySem.W.isFn X.K (.ref fi) = true) (hl : PySem.W.findIn X.K (.ref C) "__len__" = some (some (.ref fl))) (hlf : PySem.W.isFn X.K (.ref fl) = true)
    (FI : FnOk X.prog X.w X.K X.mg X.base CX0 n fi fdI psI spI) (bI : Binds X.K fdI psI []) (FL : FnOk X.prog X.w X.K X.mg X.base CX0 n fl fdL psL spL) (bL : Binds X.K fdL psL []) (hr : Room (n + 3) X.A) :
    CallR X (.type "list") (rListO C spI spL EI EL) := by
  intro pins s σ H xs us Q I rv h
  obtain ⟨a, dx, fs, rfl, ha, hq⟩ := h
  obtain ⟨u, rfl, ru⟩ := rv.one
  cases (show u = Value.ref a from ru)
  have hr1 : Room (n + 2) X.A.in1 := Room.in1 hr
  have hr2 : Room (n + 1) X.A.in1.in1 := Room.in1 hr1
  have hr3 : Room n X.A.in1.in1.in1 := Room.in1 hr2
  have rc : ∀ {s0 : Shared} {H0 : Hp}, Inv X pins σ H0 s0 → Env0 X.prog X.w X.K X.mg X.base X.A.in1.in1 X.stack s0 H0 := fun I0 => I0.env0.in1.in1
  refine callType_codes (Q₁ := fun obj s₁ => obj = .ref s.heap.objs.size ∧ s₁ = { s with heap := s.heap.push { cls := .type "list", data := .seq #[] } }) PySem.F.called_list (PySem.F.typeCall_list_1 _) PySem.F.entry_list_init
    (code_list_new _ ⟨rfl, rfl⟩) fun obj s₁ h₁ => ?_
  obtain ⟨rfl, rfl⟩ := h₁
  have hS : (s.heap.push { cls := .type "list", data := .seq #[] }).get? s.heap.objs.size = some { cls := .type "list", data := .seq #[] } := Heap.get?_push_size _ rfl
  refine ⟨⟨_, hS, rfl⟩, PySem.F.args_list_init_2 _ _, ?_⟩
  have fr : H s.heap.objs.size = none := I.hok.fresh (Nat.le_refl _)
  have hsp := hq _ fr
  have I1 : Inv X pins σ (upd H s.heap.objs.size (.lst [])) { s with heap := s.heap.push { cls := .type "list", data := .seq #[] } } := I.lnew (its := []) (t' := s.toks) .nil (Nat.zero_le _)
  show wpAny _ _ (do let old ← Builtin.List.listItems (.ref s.heap.objs.size); Builtin.List.listUpdate (.ref s.heap.objs.size) (fun _ => #[]); letGo old.toList.reverse; Builtin.List.listExtendWith (.ref s.heap.objs.size) (.ref a) .none) _ _ _
  refine wpAny_bind ?_
  unfold Builtin.List.listItems
  refine wpAny_bind (wpAny_seqItems hS rfl (wpAny_pure ?_))
  show wpAny _ _ (updateSeq s.heap.objs.size (fun _ => #[]) >>= fun _ => letGo (#[] : Array Value).toList.reverse >>= fun _ => Builtin.List.listExtendWith (.ref s.heap.objs.size) (.ref a) .none) _ _ _
  refine wpAny_bind (wpAny_updateSeq hS rfl ?_)
  have I2 := I1.lset (f := fun _ => #[]) (its := []) (its' := []) (ys := []) (t' := s.toks) upd_same hS rfl .nil (Nat.zero_le _)
  rw [upd_upd] at I2
  refine wpAny_bind (wpAny_letGo ?_)
  have ha2 : upd H s.heap.objs.size (.lst []) a = some (.ins C dx fs) := by rw [upd_ne (ne_of_none ha fr)]; exact ha
  revert hsp
  generalize s.heap.objs.size = q at *
  intro hsp
  have hne : q ≠ a := ne_of (H := upd H q (.lst [])) upd_same ha2 (fun z => nomatch z)
  obtain ⟨mA, J, _⟩ := ins_get I2.hok ha2
  obtain ⟨od, J, _⟩ := J.look
  obtain ⟨m0, hF⟩ := I2.fr
  unfold Builtin.List.listExtendWith
  refine wpAny_bind (J.type.here ?_)
  have h1 : Builtin.List.listSameRef (.ref q) (.ref a) = false := by simp [Builtin.List.listSameRef, hne]
  have h2 : (Value.ref C == Value.type "list") = false := rfl
  have h3 : (Value.ref C == Value.type "tuple") = false := rfl
  simp only [h1, h2, h3, Bool.or_false, Bool.false_eq_true, if_false]
  refine wpAny_bind (PySem.W.owit_iter hF I2.ok.mod.kin J hi hif ?_)
  refine wpAny_mono (run_sub (us := [.ref a]) (vs := [.ref a]) (X := X.nox) (E := EI) FI (hr2.mono (Nat.le_succ n)) rfl bI pass0 (I2.wish _) (.cons rfl .nil) hsp) (fun itv s' hq' => ?_) fun _ _ z => z.elim
  obtain ⟨v, H1, I3', rit, it, l, zs, ev, hit, hlz, nlq, hqq, ⟨dx', fs', ha3⟩, hL⟩ := hq'
  have I3 : Inv X pins σ H1 s' := I3'.unwish
  subst ev
  obtain rfl : itv = Value.ref it := rit
  have hT : s'.TypeIs (.ref it) "list_iterator" := ⟨_, itO_get I3 hit, rfl⟩
  unfold PySem.W.OwitIt
  refine wpAny_specialOf hT slot_listiter_next.lookup ?_
  obtain ⟨mA', J', _⟩ := ins_get I3.hok ha3
  obtain ⟨od', J', _⟩ := J'.look
  obtain ⟨m1, hF'⟩ := I3.fr
  have niq : it ≠ q := ne_of hit hqq (fun z => nomatch z)
  obtain ⟨z5, its5, k5, r5, hl5, e5⟩ := I3.lstM hlz
  refine wpAny_bind (wpAny_holding (hint_len hl I3.kIn J' (PySem.W.len_K hF' I3.ok.mod.kin J' hl hlf (wpAny_mono (run_sub (us := [.ref a]) (vs := [.ref a]) (X := X.nox) (E := EL) FL hr3 rfl bL pass0 (I3.wish _) (.cons rfl .nil) hL) (fun w2 s2 z => ?_) fun _ _ z => z))))
  obtain ⟨z', H2, I4', rz, ⟨i, ei, h0, h1'⟩, eH, fin⟩ := z
  have I4 : Inv X pins σ H2 s2 := I4'.unwish
  subst ei eH
  obtain ⟨t, e⟩ := (show ∃ t, w2 = Value.int i t from rz)
  cases e
  have hs63 : (sizeLine : Int) < 2 ^ 63 := by rw [sizeLine_eq]; decide
  refine ⟨⟨h0, by omega⟩, i, _, rfl, h0, h1', ?_⟩
  have I5 : Inv X pins σ H2 { s2 with toks := s2.toks + 1 } := I4.tok _
  have done : ∀ {s6 : Shared} {H6 : Hp}, Inv X pins σ H6 s6 → (∀ b, b ≠ it → b ≠ q → H6 b = H2 b) → H6 q = some (.lst zs) →
      wants (fun r s₂ => r = .none ∧ EP X pins σ Q (.ref q) s₂) X.xe (.ok (.ret .none)) s6 := fun I6 hs6 hq6 => ⟨rfl, .ref q, _, I6, rfl, fin _ hs6 hq6⟩
  have loop : ∀ {s6 : Shared}, Inv X pins σ H2 s6 → codeAny (model X.prog X.w) X.A.in1 (.builtin "list.extend.loop" ⟨[.ref q, .ref it, .none], []⟩) (wants (fun r s₂ => r = .none ∧ EP X pins σ Q (.ref q) s₂) X.xe) s6 := fun {s6} I6 =>
    it_loop (H2 := H2) (xs := zs) hr1.hd nlq niq (fun H' s' I' h1 h2 => done I' h1 h2) zs.length 0 H2 s6 (Nat.zero_add _) I6 hlz hit hqq fun _ _ _ => rfl
  obtain ⟨z6, its6, k6, r6, hl6, e6⟩ := I5.lstM hqq
  cases r6
  refine wpAny_ite_split (fun _ => ?_) (fun _ => wpAny_pure ⟨plainId_quiet PySem.F.plain_extend_loop _, loop I5⟩)
  refine wpAny_bind (wpAny_rule ?_)
  refine wpAny_bind ?_
  show wpAny _ _ (updateSeq q (·.push .none) >>= fun _ => updateSeq q (·.pop)) _ _ _
  refine wpAny_bind (wpAny_updateSeq e6 rfl ?_)
  have I7 := I5.lset (f := (·.push Value.none)) (its' := [Value.none]) (ys := [.non]) (t' := s2.toks + 1) hqq e6 (by simp) (.cons rfl .nil) (by rw [List.length_singleton, sizeLine_eq]; decide)
  obtain ⟨z4, its4, k4, r4, hl4, e4⟩ := I7.lstM upd_same
  obtain ⟨u4, rfl, ru4⟩ := r4.one
  refine wpAny_updateSeq e4 rfl ?_ (by show 1 ≤ sizeLine; rw [sizeLine_eq]; decide) (by show 0 ≤ sizeLine + 1; exact Nat.zero_le _)
  have I8 := I7.lset (f := (·.pop)) (its := [u4]) (its' := []) (ys := []) (t' := s2.toks + 1) upd_same e4 (by rfl) .nil (Nat.zero_le _)
  rw [upd_upd] at I8
  have hH : upd H2 q (.lst []) = H2 := by
    funext b
    by_cases hb : b = q
    · rw [hb, upd_same, hqq]
    · rw [upd_ne hb]
  rw [hH] at I8
  exact wpAny_pure ⟨plainId_quiet PySem.F.plain_extend_loop _, loop I8⟩
end
end EscR

/-! StoreError: class StoreError(EscheatError), whose __init__ says super().__init__('..') and stores a field. -/
namespace EscR
open PySem PySem.W PySem.Calls PyProof.Rows PySem.HandSPX Esc

abbrev seFd (doc pm : Value) (an : Option Addr) (cda : Addr) (ct : Value) (cc : Addr) : FuncData :=
  ksFn "__init__" "StoreError.__init__" (L2.defArgs sSe) (L2.defBody sSe) (L2.defScope sSe) .none .none doc pm an (.ref cda) ct cc
/-- what the written part says of StoreError, at C, of its __init__, at fI, of the cell that holds the class, at cc, of the code, at cda -/
structure SeTxt (P : Program) (K : Frag) (mg : Str → Option Value) (C fI cc cda : Addr) : Prop where
  gC : mg "StoreError" = some (.ref C)
  gS : mg "super" = none
  cls : ∃ nm q N bs bm sn sub ab col dd k0 k1 k2 k3 k5, K.lookup C = some (excClassObj nm q C N bs bm true sn sub ab col dd k0 k1 k2 k3 k5 "ValueError.__new__") ∧ refsVE bm = true
  sa : findIn K (.ref C) "__setattr__" = some (some (.builtin "object.__setattr__"))
  ga : findIn K (.ref C) "__getattribute__" = some (some (.builtin "BaseException.__getattribute__"))
  gg : findIn K (.ref C) "__getattr__" = some none
  noN : findIn K (.ref C) "reason" = some none
  iC : findIn K (.ref C) "__init__" = some (some (.ref fI))
  tC : typeIn K (.ref fI) = some (.type "function")
  kC : keepIn K (.ref C) = true
  exC : subIn K (.ref C) (.type "BaseException") = some true
  vB : subIn K (.ref C) (.type "ValueError") = some true
  tyC : typeIn K (.ref C) = some (.type "type")
  hdC : hasDictIn K C = true
  te : exmOne K (.ref C) (.ref C) = some true
  sup : ks_superIn K C C "__init__" = some (some (.builtin "ValueError.__init__"))
  self : mroIn K C (.ref C) = some true
  opq : nsIn K cStatics "thirdparty.any" = some none
  fn : ∃ (oc : Value) (od : Option Addr) (doc pm : Value) (an : Option Addr) (ct : Value) (osl : Array (Option Value)), K.lookup fI = some ⟨oc, od, .func (seFd doc pm an cda ct cc), osl⟩
  co : codeIn K (.ref cda) "StoreError.__init__" = true
  cell : ∃ cl cld csl, K.lookup cc = some ⟨cl, cld, .cell (some (.ref C)), csl⟩
  code : ∃ ccl cdd vs ccs file tf, K.lookup cda = some ⟨ccl, cdd, .fields vs, ccs⟩ ∧ vs[2]? = some (.str file tf) ∧ ((P.main.file : Str) == file) = true
  topn : (P.main.scope.names.lookup ("super" : Str)).isSome = false
  boot : bootBuiltins "super" = some (.type "super")
theorem one_size (v : Value) : [v].length ≤ sizeLine := by
  rw [sizeLine_eq]
  exact (by decide : 1 ≤ 16777216)
/-- what __init__ leaves of a fresh exception at x -/
structure InitEnd (h h' : Heap) (x C dx t1 : Addr) (v : Value) : Prop where
  keep : ∀ b o, b ≠ x → h.get? b = some o → h'.get? b = some o
  obj : h'.get? x = some { cls := .ref C, dict := some dx, data := .fields #[.ref t1, .none, .none, .none, .bool false, .none] }
  dbig : h.objs.size ≤ dx
  dne : dx ≠ x
  ns : h'.Ns1 dx (fun y => if y = "reason" then some v else none)
/-- a made StoreError -/
structure OwnMade (h h' : Heap) (e C d : Addr) (v : Value) : Prop where
  keep : ∀ b o, h.get? b = some o → h'.get? b = some o
  new : h.objs.size ≤ e
  obj : ∃ oe vs, h'.get? e = some oe ∧ oe.cls = .ref C ∧ oe.dict = some d ∧ oe.data = .fields vs ∧ vs[1]? = some .none ∧ vs[2]? = some .none
  dbig : h.objs.size ≤ d
  dne : d ≠ e
  ns : h'.Ns1 d (fun y => if y = "reason" then some v else none)
section
variable {prog : Program} {w : World} {A : Around} {E : Value → Shared → Prop} {R : Result → Shared → Prop} {s : Shared} {K : Frag} {mg mb : Str → Option Value} {C fI cc cda : Addr}
theorem clsIn_of {K : Frag} {C : Addr} {nm q : Str} {N : Addr} {bs bm : List Value} {sn : List Str} {sub : List Value} {ab : Bool} {col : Option Bool} {dd : Option Addr} {k0 k1 k2 k3 k5 : Option Value} {newId : String}
    (hC : K.lookup C = some (excClassObj nm q C N bs bm true sn sub ab col dd k0 k1 k2 k3 k5 newId)) :
    clsIn K C = some { name := nm, bases := bs, mro := .ref C :: bm, ns := N, qualname := q, hasDict := true, slotNames := sn, subclasses := sub, abstract := ab, collection := col, hasDel := false } := by
  unfold clsIn
  rw [hC] <;> rfl
/-- super().__init__(text), called on the made method-wrapper -/
theorem call_mw {x u t : Addr} {rest : List Value} {Q : Value → Shared → Prop} {nm q : Str} {N : Addr} {bs bm : List Value} {hdct : Bool} {sn : List Str} {sub : List Value} {ab : Bool} {col : Option Bool} {dd : Option Addr} {k0 k1 k2 k3 k5 : Option Value}
    (hC : s.heap.get? C = some (excClassObj nm q C N bs bm hdct sn sub ab col dd k0 k1 k2 k3 k5 "ValueError.__new__")) (hu : s.heap.get? u = some (kxs_mw "ValueError.__init__" x)) (he : s.heap.get? x = some (excO C t)) (hz : rest.length ≤ sizeLine)
    (fin : ∀ h', (∀ b o, b ≠ x → s.heap.get? b = some o → h'.get? b = some o) → h'.get? x = some (excO C s.heap.objs.size) → Q .none { s with heap := h' }) :
    wpAny (model prog w) A (call (.ref u) rest) Q E s := by
  obtain ⟨hh, g, d, tk, os⟩ := s
  refine wpAny_call (codeAny_of_tree ?_)
  show wpAny _ A.in1 (callAny (.ref u) ⟨rest, []⟩) _ _ _
  simp only [callAny]
  refine wpAny_bind (wpAny_load hu ?_)
  simp only [kxs_mw, show (Value.type "method-wrapper" == Value.type "method" || Value.type "method-wrapper" == Value.type "builtin_function_or_method" || Value.type "method-wrapper" == Value.type "method-wrapper") = true by decide, if_true]
  refine KFB.if_so (by decide) ?_
  refine wpAny_bind (check_bound_init F.excBase_ValueError.toExcCallFacts hC he rfl ?_)
  refine wpAny_bind (wpAny_pure (wpAny_pure ?_))
  refine ⟨plainId_quiet F.excBase_ValueError.init.plain _, codeAny_builtin F.excBase_ValueError.initEntry ?_⟩
  exact exc_init_tree (cls := .ref C) (t0 := t) (dv := none) (c2 := .none) (c3 := .none) (b4 := .bool false) he hz fun h' k e _ => fin h' k e
theorem kept_but {K : Frag} {h h' : Heap} {x : Addr} (X : K.In h) (hx : K.lookup x = none) (k : ∀ b o, b ≠ x → h.get? b = some o → h'.get? b = some o) : K.In h' := fun a o e =>
  k a o (fun z => by rw [z, hx] at e; cases e) (X a o e)
theorem se_init (T : SeTxt prog K mg C fI cc cda) {x t0 : Addr} {v : Value} (X : K.In s.heap) (hg : s.heap.Ns mainGlobals mg) (hb : s.heap.Ns builtinsNs mb) (hmb : mb "super" = bootBuiltins "super") (hlim : s.heap.NoLimit) (hx : s.heap.get? x = some (excO C t0)) (hnx : K.lookup x = none) (hroom : A.depth < recursionLimit)
    (hq : ∀ h' tk dx t1, InitEnd s.heap h' x C dx t1 v → R (.ok (.ret .none)) { s with heap := h', toks := tk }) :
    codeAny (model prog w) A (.call (.ref fI) ⟨[.ref x, v], []⟩) R s := by
  obtain ⟨oc, od, doc, pm, an, ct, osl, ho⟩ := T.fn
  obtain ⟨nm, q, N, bs, bm, sn, sub, ab, col, dd, k0, k1, k2, k3, k5, hC, hbm⟩ := T.cls
  obtain ⟨ccl', cld, csl, hcell⟩ := T.cell
  obtain ⟨ccl, cdd, vs, ccs, file, tf, hcode, hvs, hfile⟩ := T.code
  have hcl := clsIn_of hC
  have hm := T.sup
  unfold ks_superIn at hm
  rw [hcl, Option.bind_some] at hm
  obtain ⟨hp, g, d, tk, os⟩ := s
  refine ks_codeAny_call_defAt (fd := seFd doc pm an cda ct cc) (body := L2.defBody sSe) (binds := [("self", .ref x), ("reason", v)]) hroom (X _ _ ho) rfl hlim (codeRec_of X T.co) rfl (BindsTo.of_eq (by first | rfl | with_unfolding_all rfl))
    (show ∀ x ∈ (L2.defScope sSe).names, x.2 ≠ .cell by decide +kernel) (locs (by rfl)) (fun h₁ hns k => ?_)
  -- super().__init__('..')
  have X₁ : K.In h₁ := X.keeps k
  have hx₁ : h₁.get? x = some (excO C t0) := k _ _ hx
  have hxL : hp.objs.size ≠ x := Nat.ne_of_gt (Heap.lt_size hx)
  show _root_.PySem.wpAt _ _ _ (execs _ _) _ _ _
  refine ks_wpAt_execs_cons (ks_wpAt_Expr_any (ks_wpAt_MethodCall ?_))
  refine ks_wpAt_super_base (f := fI) (cc := cda) (of := _) (oc := _) (fd := seFd doc pm an cda ct cc) (ar := ((L2.defArgs sSe).args.getD 0 { arg := "", annotation := none, pos := ⟨0, 0, 0, 0⟩ })) (vs := vs) (file := file) (tf := tf)
    (by rfl) (by rfl) (by decide +kernel) rfl (X₁ _ _ ho) rfl (by rfl) rfl (X₁ _ _ hcode) rfl hvs hfile T.topn ?_
  refine ks_loadName_global (by rfl) (by rfl) (loadGlobal_builtin (hg.keeps k) T.gS (hb.keeps k) (hmb.trans T.boot) ⟨rfl, ?_⟩)
  refine wpAny_loadName_free (by rfl) (by rfl) rfl ⟨_, X₁ _ _ hcell, rfl⟩ ?_
  refine wpAny_loadName_local (v := .ref x) (by rfl) (by rfl) hns (by rfl) ?_
  refine ks_wpAny_isType_cls (X₁ _ _ hC) rfl ⟨rfl, ?_⟩
  refine ks_wpAny_call_super (X₁ _ _ hC) rfl hx₁ rfl (fun c e => by cases e) (looks_mroIn X₁ T.self) (fun h₂ e₂ k₂ => ?_)
  have X₂ : K.In h₂ := X₁.keeps k₂
  have hx₂ : h₂.get? x = some (excO C t0) := k₂ _ _ hx₁
  have I₂ : InstAt h₂ x (excO C t0) C none := ⟨hx₂, rfl, rfl, trivial⟩
  have hxC : x ≠ C := ks_ne X₂ I₂ hcl
  refine kxs_getMethod kxs_ValueError e₂ (looks_opaque X₂ T.opq) (l₀ := .ref C :: bm) (fun A Q E s k q => wpAny_bind ((looks_clsIn X₂ hcl) A _ E s k (wpAny_pure q))) rfl X₂ hm (I₂.type.andThen (looks_subIn X₂ T.vB)) hxC (by decide +kernel) ?_
  have hpu : (h₂.push (kxs_mw "ValueError.__init__" x)).get? h₂.objs.size = some (kxs_mw "ValueError.__init__" x) := Heap.get?_push_size _ rfl
  refine kxs_callWith (i := "ValueError.__init__") (x := x) (by rfl) (evalArgs_plain ?_)
  refine Calls.spliced_cons (Calls.Constant_str (pos := ⟨7, 25, 7, 51⟩) (k := 0) (Calls.spliced_nil ⟨hpu, ?_⟩))
  have k3 : ∀ b o, h₂.get? b = some o → (h₂.push (kxs_mw "ValueError.__init__" x)).get? b = some o := fun b o e => Heap.get?_push_of_some _ e
  refine call_mw (C := C) (k3 _ _ (X₂ _ _ hC)) hpu (k3 _ _ hx₂) (one_size _) fun h₄ k₄ hx₄ => ?_
  have kall : ∀ b o, b ≠ x → h₁.get? b = some o → h₄.get? b = some o := fun b o hb e => k₄ b o hb (k3 b o (k₂ b o e))
  have X₄ : K.In h₄ := kept_but X₁ hnx kall
  have hn₄ : h₄.Ns hp.objs.size (fun y => ([(("self" : Str), Value.ref x), (("reason" : Str), v)] : List (Str × Value)).reverse.lookup y) := by
    obtain ⟨o, es, ep, e, r⟩ := hns
    exact ⟨o, es, ep, kall _ _ hxL e, r⟩
  -- self.reason = reason
  refine wpAt_of_wpAny ?_
  show wpAny _ _ (execs _ _) _ _ _
  refine wpAny_execs_cons (plainObj_wpAny_Assign_Attribute ?_)
  refine ESX.ldL (v := v) hn₄ (by first | rfl | with_unfolding_all rfl | kernel_rfl) (ESX.ldL (v := .ref x) hn₄ (by first | rfl | with_unfolding_all rfl | kernel_rfl) ?_)
  refine set_plain X₄ (ox := excO C _) (od := none) ⟨hx₄, rfl, rfl, trivial⟩ T.sa ?_
  refine exc_osa X₄ hx₄ hcl (show refsVE (.ref C :: bm) = true from hbm) rfl T.noN (fun h₅ tk₅ dx k₅ dn dne hx₅ hn₅ => ?_)
  show wpAny _ _ (execs _ _) _ _ _
  have le : hp.objs.size ≤ h₄.objs.size := Nat.le_of_lt hn₄.lt
  exact wpAny_execs_nil (hq h₅ tk₅ dx _ ⟨fun b o hb e => k₅ b o hb (kall b o hb (k b o e)), hx₅, Nat.le_trans le dn, dne, hn₅⟩)
theorem se_made (T : SeTxt prog K mg C fI cc cda) {v : Value} (X : K.In s.heap) (hg : s.heap.Ns mainGlobals mg) (hb : s.heap.Ns builtinsNs mb) (hmb : mb "super" = bootBuiltins "super") (hlim : s.heap.NoLimit) (hroom : A.depth + 1 < recursionLimit)
    (hq : ∀ h' tk e d, OwnMade s.heap h' e C d v → R (.ok (.ret (.ref e))) { s with heap := h', toks := tk }) :
    codeAny (model prog w) A (.call (.ref C) ⟨[v], []⟩) R s := by
  obtain ⟨nm, q, N, bs, bm, sn, sub, ab, col, dd, k0, k1, k2, k3, k5, hC, hbm⟩ := T.cls
  obtain ⟨hp, g, dr, tk, os⟩ := s
  have k : ∀ b o, hp.get? b = some o → ((hp.push (kdv_tup [v])).push (excO C hp.objs.size)).get? b = some o := fun b o e => Heap.get?_push_of_some _ (Heap.get?_push_of_some _ e)
  have hget : ((hp.push (kdv_tup [v])).push (excO C hp.objs.size)).get? (hp.objs.size + 1) = some (excO C hp.objs.size) := by heap_get
  have hnx : K.lookup (hp.objs.size + 1) = none := by
    cases e : K.lookup (hp.objs.size + 1) with
    | none => rfl
    | some o =>
      have z : hp.get? (hp.objs.size + 1) = some o := X _ _ e
      exact absurd (Nat.lt_of_succ_lt (Heap.lt_size z)) (Nat.lt_irrefl _)
  refine call_own F.excBase_ValueError (fun X => refsVE_contains X bm hbm) (X _ _ hC) (looks_findIn X T.iC) (fun self => bind_fn X self T.tC) (one_size v) ?_
  refine se_init (s := ⟨(hp.push (kdv_tup [v])).push (excO C hp.objs.size), g, dr, tk, os⟩) T (X.keeps k) (hg.keeps k) (hb.keeps k) hmb (hlim.keeps k) hget hnx ?_ fun h' tk' dx t1 ⟨k', hx, dn, dne, hns⟩ => ?_
  · show A.depth + 1 < recursionLimit
    exact hroom
  · have old : ∀ b o, hp.get? b = some o → h'.get? b = some o := fun b o e => k' b o (Nat.ne_of_lt (Nat.lt_succ_of_lt (Heap.lt_size e))) (k b o e)
    have z : hp.objs.size + 1 + 1 ≤ dx := by
      first
        | (simpa only [Heap.size_push] using dn)
        | exact dn
        | (have q := dn; rw [Heap.size_push, Heap.size_push] at q; exact q)
    exact ⟨rfl, hq h' tk' (hp.objs.size + 1) dx ⟨old, Nat.le_succ _, ⟨_, _, hx, rfl, rfl, rfl, rfl, rfl⟩, Nat.le_trans (Nat.le_trans (Nat.le_succ _) (Nat.le_succ _)) z, dne, hns⟩⟩
end
end EscR
namespace EscR
open PySem PySem.Spec PyProof.Rows L2
theorem relO_one {v : V} {v' : Value} {n : Str} (r : RelV v v') (f : Str) : RelO (List.lookup f [(n, v)]) (if f = n then some v' else none) := by
  by_cases hw : f = n
  · subst hw
    rw [if_pos rfl]
    have q : List.lookup f [(f, v)] = some v := by simp [List.lookup]
    rw [q]
    exact r
  · rw [if_neg hw]
    have qw : (f == n) = false := by simpa using hw
    have q2 : List.lookup f [(n, v)] = none := by simp [List.lookup, qw]
    rw [q2]
    trivial
section
variable {X : Cx} {C fI cc cda : Addr}
/-- StoreError(e) -/
def tMkSe (C : Addr) (ta : TA) : L2.St → Hp → XK → Prop := fun σ H Q => ta σ H fun vs H1 => ∃ v, vs = [v] ∧ ∀ d, H1 d = none → Q (.ref C) (some d) (upd H1 d (.xd [(("reason" : Str), v)]))
theorem pmk_se {a : Expr} {ta : TA} {p pos : Pos} {k : Nat} (T : SeTxt X.prog X.K X.mg C fI cc cda) (hr : Room k X.A) (ha : PA X [a] ta) (hg : Gl X "StoreError" := by rfl)
    (he : starEach (a :: []) X.env = (false, eval a X.env) :: starEach [] X.env := by rfl) (hpl : (backTo pos (starEach [] X.env)).any (·.1) = false := by rfl) :
    L2N.PMk X (.Call (.Name "StoreError" p) [a] [] pos) (tMkSe C ta) := by
  intro pins s σ H Q I h
  refine wpAny_Call_Name_kw (ld_glob I hg T.gC ?_)
  refine PySem.W.callWith_K (h₀ := X.base) I.ok.mod.kin T.kC (thn (ha.run pos pins s σ H _ I h) fun us s1 hh => ?_) he hpl
  obtain ⟨vs, H1, I1, r1, v, ev, q1⟩ := hh
  subst ev
  refine ⟨I1.kIn, ?_⟩
  cases r1 with
  | cons rv rn =>
    rename_i v' us'
    cases rn
    show wpAny _ _ (call (.ref C) [v']) _ _ _
    have hlim := I1.nolimit
    obtain ⟨mb, hmb1, hmb2⟩ := I1.mod.blt
    have kb := I1.bk
    obtain ⟨hp, g, dr, tk, os⟩ := s1
    refine wpAny_call (se_made T I1.kIn (I1.mod.glob.keeps kb) (hmb1.keeps kb) (hmb2 _ (by decide +kernel)) hlim (by have := hr.dp; omega) fun h' tk' e d M => ?_)
    show L2N.MkP X pins σ Q (.ref e) ⟨h', g, dr, tk', os⟩
    obtain ⟨oe, fv, hoe, hc, hd, hdat, h1, h2⟩ := M.obj
    have hns := M.ns
    obtain ⟨G', g1, g2⟩ := restrict h' fun b => decide (b ≠ e)
    have gk : ∀ b, b ≠ e → G'.get? b = h'.get? b := fun b hb => g1 b (decide_eq_true hb)
    have ge : G'.get? e = none := g2 e (by simp)
    have old : ∀ b o, hp.get? b = some o → G'.get? b = some o := fun b o q => (gk b (Nat.ne_of_lt (Nat.lt_of_lt_of_le (Heap.lt_size q) M.new))).trans (M.keep b o q)
    have ob : ObjOk X.prog X.w (upd H1 d (.xd [(("reason" : Str), v)])) G' d (.xd [(("reason" : Str), v)]) :=
      ⟨_, hns.at (fun o q => (gk d M.dne).trans q), fun f => relO_one rv f⟩
    have J : Inv X pins σ (upd H1 d (.xd [(("reason" : Str), v)])) ⟨G', g, dr, tk', os⟩ := I1.laid (t' := tk') old M.dbig ob
    refine ⟨e, oe, fv, ⟨G', g, dr, tk', os⟩, _, .ref C, some d, rfl, J, fun b o q => ?_, ge, hoe, ⟨hc, hd, fun vs e => by rw [hdat] at e; cases e; exact h2⟩, hdat, h1, ?_, rfl, I1.bare, raises_own T.exC T.tyC, q1 d (I1.hok.fresh M.dbig)⟩
    · by_cases hb : b = e
      · have q' : G'.get? b = some o := q
        rw [hb, ge] at q'; cases q'
      · exact (gk b hb).symm.trans q
    · rw [upd_ne (Ne.symm M.dne)]
      exact I1.hok.fresh M.new
/-- raise StoreError(e) -/
def tRaiseSe (C : Addr) (W : WX) (ta : TA) : TS := fun _ σ H => tMkSe C ta σ H fun cls d H' => W cls d σ H'
theorem ps_raiseSe {a : Expr} {ta : TA} {W : WX} {p pos pos2 : Pos} {k : Nat} (hc : X.calm = true) (T : SeTxt X.prog X.K X.mg C fI cc cda) (hr : Room k X.A) (tk : L2N.Takes X W) (ha : PA X [a] ta) (hg : Gl X "StoreError" := by rfl)
    (he : starEach (a :: []) X.env = (false, eval a X.env) :: starEach [] X.env := by rfl) (hpl : (backTo pos (starEach [] X.env)).any (·.1) = false := by rfl) :
    PS X (.Raise (some (.Call (.Name "StoreError" p) [a] [] pos)) none pos2) (tRaiseSe C W ta) := L2N.ps_raise hc tk (pmk_se T hr ha hg he hpl)
end
end EscR

/-! if and for in a generator def's body. -/
namespace EscR
open PySem PySem.Spec PyProof.Rows L2 GenW

section
variable {X : Cx}
def tGIf (c : TT) (t u : TGn) : TGn := fun D ys σ H => c σ H fun b H1 => if b = true then t D ys σ H1 else u D ys σ H1
theorem gs_if {test : Expr} {a b : List Stmt} {pos : Pos} {tc : TT} {t u : TGn} (hc : PT X test tc) (ha : GSs X a t) (hb : GSs X b u) : GS X (.If test a b pos) (tGIf tc t u) := by
  refine ⟨fun A S ip R n ys s₀ c fs K J gd lv s σ H D g hn k hI ht => ?_⟩
  rw [arm_exec_If]
  refine seg_bind_wrap (wpAny_standAt ?_)
  refine seg_bind_wrap ?_
  rw [g.over]
  obtain ⟨acc, cc, r, I⟩ := hI
  refine wpAny_mono (hc.run _ s σ H _ I ht) (fun d s' hd => ?_) fun x s' hx => k.exc n s₀ x s' hx
  obtain ⟨H2, I2, q2⟩ := hd
  cases d with
  | true => exact ha.run A S ip R n ys s₀ c fs K J gd lv s' σ H2 D g hn k ⟨acc, cc, r, I2⟩ q2
  | false => exact hb.run A S ip R n ys s₀ c fs K J gd lv s' σ H2 D g hn k ⟨acc, cc, r, I2⟩ q2

def tGFor (wi : TI) (g : TG) (tb : TGn) : TGn := fun D ys σ H => wi σ H fun J H1 => ∃ W : Nat → Nat → List V → L2.St → Hp → Prop, (∃ m, W 0 m ys σ H1) ∧ ∀ i m ys σ H, W i m ys σ H →
  (J.stop i H ∧ D.nx ys σ H) ∨ (J.go i H ∧ ∃ N : List V → L2.St → Hp → Prop, (∀ ys' σ' H', N ys' σ' H' → ∃ m', m' < m ∧ W (i + 1) m' ys' σ' H') ∧ ∀ x H', J.yld i H x H' → g x σ H' fun σ2 H2 => tb { D with nx := N, ct := N, bk := D.nx } ys σ2 H2)
theorem gs_for {tg iter : Expr} {body : List Stmt} {wi : TI} {gt : TG} {tb : TGn} {pos : Pos} (hp : PassesOwn (model X.prog X.w) X.A X.env X.xe) (hc : X.calm = true) (hi : PI X tg iter wi) (hg : PG X tg gt) (hb : GSs X body tb)
    (hs : ∀ x, foldedSetIterable iter X.env x = pure x := by intro _; rfl) : GS X (.For tg iter body [] pos) (tGFor wi gt tb) := by
  refine ⟨fun A S ip R n ys s₀ c fs K J gd lv s σ H D g hn k hI ht => ?_⟩
  rw [arm_exec_For]
  refine seg_bind_wrap (wpAny_standAt ?_)
  refine seg_bind_wrap ?_
  rw [g.over]
  obtain ⟨acc, cc, r, I⟩ := hI
  refine wpAny_mono (hi.run _ s σ H _ I ht) (fun v s1 h1 => ?_) fun x s' hx => k.exc n s₀ x s' hx
  refine seg_bind_wrap (wpAny_of_eq (hs v) ?_)
  refine seg_bind_wrap (wpAny_standAt ?_)
  refine seg_bind_wrap (wpAny_holding ?_)
  rw [g.over]
  refine wpAny_mono h1 (fun itv s2 h2 => ?_) fun x s' hx => k.exc n s₀ x s' hx
  obtain ⟨it, fp, tn, J0, H2, e, I2, T, st2, f2, W, ⟨m0, w0⟩, turn⟩ := h2
  subst e
  refine seg_call fun p => ?_
  have gl := fun (kk : Result → Sem PySem.Fin) => gc_loop (k := kk) (c' := .forLoop tg (.ref it) body [] X.env) (l := lv []) (kp := []) (p := p) g rfl rfl
  have stat : ∀ {acc' : Array Value} {c' : Nat} {H' : Hp}, (∀ b ∈ fp, H' b = none) → ∀ b ∈ fp, FpOk X ((S, lstObj acc' c') :: ip) H' b := fun hn b hb => by
    obtain ⟨_, f3, f4, f5, f6, f7⟩ := f2 b hb
    refine ⟨hn b hb, f3, f4, f5, f6, fun q hq => ?_⟩
    rcases List.mem_append.mp hq with hq | hq
    · exact f7 q (List.mem_append_left _ hq)
    · rcases List.mem_cons.mp hq with hq | hq
      · rw [hq]
        exact f7 (S, lstObj acc cc) (List.mem_append_right _ List.mem_cons_self)
      · exact f7 q (List.mem_append_right _ (List.mem_cons_of_mem _ hq))
  have fpS : ∀ b ∈ fp, b ≠ S := fun b hb z => (f2 b hb).2.2.2.2.2 (S, lstObj acc cc) (List.mem_append_right _ List.mem_cons_self) z.symm
  have loop : ∀ (m n i : Nat) (ys : List V) (s₀ s : Shared) (σ : L2.St) (H : Hp), n + ys.length = sizeLine → W i m ys σ H → tn i s.heap → (∀ b ∈ fp, H b = none) → GI X S ip ys σ H s →
      Seg (model X.prog X.w) A R (GY X S) n s₀ (.forLoop tg (.ref it) body [] X.env) ((model X.prog X.w).den (.forLoop tg (.ref it) body [] X.env))
        (.ret (fun r => ((match r with | .ok f => (.pure f : Sem Flow) | .error e => .raise e).onRaise (cameBack X.env)).wrap K J gd lv) none (gd false) (lv []) c p [] :: fs) s := by
    intro m
    induction m using Nat.strongRecOn with
    | ind m ih =>
      intro n i ys s₀ s σ H hn w st fr hI
      have ee : ∀ (n : Nat) (s₀ : Shared) (x : Value) (s' : Shared), X.xe x s' → Seg (model X.prog X.w) A R (GY X S) n s₀ (.forLoop tg (.ref it) body [] X.env)
          (((do noteFrame x X.env; theTreesLotGoes x : Sem Unit)).bind fun _ => .raise x)
          (.ret (fun r => ((match r with | .ok f => (.pure f : Sem Flow) | .error e => .raise e).onRaise (cameBack X.env)).wrap K J gd lv) none (gd false) (lv []) c p [] :: fs) s' := fun n s₀ x s' hx => by
        rw [Sem.bind_eq_wrap]
        refine seg_wrap ?_
        rw [(gl _).over]
        refine wpAny_bind (wpAny_mono (hp x s' hx) (fun _ s'' hcb => wpAny_theTreesLotGoes ?_) fun y s'' hcb => ?_)
        · exact seg_leaf (.error x) (seg_cameBack g k hcb)
        · exact seg_leaf (.error y) (seg_cameBack g k hcb)
      show Seg _ _ _ _ n s₀ _ ((forTurn tg (.ref it) body [] X.env).onRaise (fun x => do noteFrame x X.env; theTreesLotGoes x)) _ s
      rw [Sem.onRaise_eq_wrap]
      unfold forTurn
      refine seg_bind_wrap (wpAny_standAt ?_)
      refine seg_bind_wrap (wpAny_onRaise ?_)
      rw [(gl _).over]
      obtain ⟨acc1, c1, r1, I1⟩ := hI
      rcases turn i m ys σ H w with ⟨stop, qn⟩ | ⟨go, N, hN, step⟩
      · refine wpAny_mono (T.done X rfl rfl rfl hc i _ s σ H X.xe I1 (stat fr) st stop) (fun rr s4 h4 => ?_) fun x s' hx => wpAny_standAt (ee n s₀ x s' hx)
        obtain ⟨hr, I4⟩ := h4
        subst hr
        refine seg_again (c' := .block [] X.env) rfl ?_
        show Seg _ _ _ _ _ _ _ (leafOf (.ok .next)) _ _
        exact seg_leaf (.ok .next) (k.ok n ys s₀ s4 .next hn ⟨σ, H, ⟨acc1, c1, r1, I4⟩, qn⟩)
      · refine wpAny_mono (T.item X rfl rfl rfl hc i _ s σ H X.xe I1 (stat fr) st go) (fun rr s4 h4 => ?_) fun x s' hx => wpAny_standAt (ee n s₀ x s' hx)
        obtain ⟨u, hr, h4⟩ := h4
        subst hr
        refine seg_bind_wrap ?_
        rw [(gl _).over]
        refine wpAny_mono h4 (fun _ s5 h5 => ?_) fun x s' hx => ee n s₀ x s' hx
        obtain ⟨x, H5, I5, r5, y5, st5, fr5⟩ := h5
        have I5' := I5.pinned (stat fr5) (T.obj _ _ st5)
        refine seg_bind_wrap ?_
        rw [(gl _).over]
        refine wpAny_mono (hg.run _ s5 σ H5 x u _ I5' r5 (step x H5 y5)) (fun _ s6 h6 => ?_) fun x s' hx => ee n s₀ x s' hx
        obtain ⟨σ6, H6, I6, q6⟩ := h6
        rw [Sem.bind_eq_wrap', Sem.wrap_wrap]
        have g' : GC X S (ip ++ pinsAt fp s5.heap) A (.forLoop tg (.ref it) body [] X.env) (.ret (fun r => ((match r with | .ok f => (.pure f : Sem Flow) | .error e => .raise e).onRaise (cameBack X.env)).wrap K J gd lv) none (gd false) (lv []) c p [] :: fs) id := by
          have g0 := gl (fun r => ((match r with | .ok f => (.pure f : Sem Flow) | .error e => .raise e).onRaise (cameBack X.env)).wrap K J gd lv)
          refine ⟨g0.pn, fun q hq => ?_, g0.apart, g0.over, g0.split, g0.guard, g0.gd⟩
          rcases List.mem_append.mp hq with hq | hq
          · exact g0.ip q hq
          · exact fpS _ (of_pinsAt hq).1
        have unp : ∀ {ys7 : List V} {σ7 : L2.St} {H7 : Hp} {s7 : Shared}, GI X S (ip ++ pinsAt fp s5.heap) ys7 σ7 H7 s7 → GI X S ip ys7 σ7 H7 s7 := fun {ys7 σ7 H7 s7} hG => by
          obtain ⟨a7, c7, r7, I7⟩ := hG
          exact ⟨a7, c7, r7, Inv.unpinned (pl := pinsAt fp s5.heap) (pins := (S, lstObj a7 c7) :: ip) I7⟩
        have again : ∀ {n7 : Nat} {s07 : Shared} {ys7 : List V} {σ7 : L2.St} {H7 : Hp} {s7 : Shared}, n7 + ys7.length = sizeLine → GI X S (ip ++ pinsAt fp s5.heap) ys7 σ7 H7 s7 → N ys7 σ7 H7 →
            Seg (model X.prog X.w) A R (GY X S) n7 s07 (.forLoop tg (.ref it) body [] X.env) (.pure (.again (.forLoop tg (.ref it) body [] X.env)))
              (.ret (fun r => ((match r with | .ok f => (.pure f : Sem Flow) | .error e => .raise e).onRaise (cameBack X.env)).wrap K J gd lv) none (gd false) (lv []) c p [] :: fs) s7 := fun {n7 s07 ys7 σ7 H7 s7} hn7 hG n7' => by
          obtain ⟨m', hm, w7⟩ := hN ys7 σ7 H7 n7'
          obtain ⟨a7, c7, r7, I7⟩ := id hG
          have pin : ∀ b o, (b, o) ∈ pinsAt fp s5.heap → s7.heap.get? b = some o ∧ H7 b = none := fun b o hbo => by
            have q := I7.pin (b, o) (List.mem_append_right _ (List.mem_cons_of_mem _ (List.mem_append_right _ hbo)))
            exact ⟨q.1, q.2.1⟩
          refine seg_again rfl (ih m' hm n7 (i + 1) ys7 s07 s7 σ7 H7 hn7 w7 (T.keep _ _ _ st5 fun b hb o e => (pin b o (mem_pinsAt hb e)).1) (fun b hb => ?_) (unp hG))
          obtain ⟨o, e, d⟩ := T.obj _ _ st5 b hb
          exact (pin b o (mem_pinsAt hb e)).2
        refine hb.run A S (ip ++ pinsAt fp s5.heap) R n ys s₀ _ _ _ _ id id s6 σ6 H6 { D with nx := N, ct := N, bk := D.nx } g' hn ⟨fun n' ys' s₀' s7 f hn' hs => ?_, fun n' s₀' x s3 hx => ee n' s₀' x s3 hx⟩ ⟨acc1, c1, r1, I6⟩ q6
        cases f with
        | next =>
          obtain ⟨σ7, H7, G7, n7⟩ := hs
          exact again hn' G7 n7
        | cont =>
          obtain ⟨σ7, H7, G7, n7⟩ := hs
          exact again hn' G7 n7
        | brk =>
          obtain ⟨σ7, H7, G7, q7⟩ := hs
          exact seg_leaf (.ok .next) (k.ok n' ys' s₀' s7 .next hn' ⟨σ7, H7, unp G7, q7⟩)
        | ret v =>
          obtain ⟨v7, σ7, H7, G7, r7, q7⟩ := hs
          exact seg_leaf (.ok (.ret v)) (k.ok n' ys' s₀' s7 (.ret v) hn' ⟨v7, σ7, H7, unp G7, r7, q7⟩)
  exact loop m0 n 0 ys s₀ s2 σ H2 hn w0 st2 (fun b hb => (f2 b hb).1) ⟨acc, cc, r, I2⟩
/-- over a range -/
theorem gfor_range {lo : Int} {n : Nat} {g : TG} {tb : TGn} {D : GEnds} {ys : List V} {σ : L2.St} {H : Hp} (Pv : Nat → List V → L2.St → Hp → Prop) (h0 : Pv 0 ys σ H)
    (hs : ∀ i ys σ H, i < n → Pv i ys σ H → g (.int (lo + i)) σ H fun σ2 H2 => tb { D with nx := Pv (i + 1), ct := Pv (i + 1), bk := D.nx } ys σ2 H2) (hd : ∀ ys σ H, Pv n ys σ H → D.nx ys σ H) :
    ∃ W : Nat → Nat → List V → L2.St → Hp → Prop, (∃ m, W 0 m ys σ H) ∧ ∀ i m ys σ H, W i m ys σ H →
      ((Itr lo n).stop i H ∧ D.nx ys σ H) ∨ ((Itr lo n).go i H ∧ ∃ N : List V → L2.St → Hp → Prop, (∀ ys' σ' H', N ys' σ' H' → ∃ m', m' < m ∧ W (i + 1) m' ys' σ' H') ∧ ∀ x H', (Itr lo n).yld i H x H' → g x σ H' fun σ2 H2 => tb { D with nx := N, ct := N, bk := D.nx } ys σ2 H2) := by
  refine ⟨fun i m ys σ H => m = n - i ∧ i ≤ n ∧ Pv i ys σ H, ⟨n, by simp, Nat.zero_le _, h0⟩, ?_⟩
  rintro i m ys σ H ⟨rfl, hi, p⟩
  by_cases hlt : i < n
  · refine .inr ⟨hlt, Pv (i + 1), fun ys' σ' H' p' => ⟨n - (i + 1), by omega, rfl, hlt, p'⟩, fun x H' y => ?_⟩
    obtain ⟨e, y⟩ := y
    subst e y
    exact hs i ys σ _ hlt p
  · have e : i = n := by omega
    subst e
    exact .inl ⟨Nat.le_refl _, hd ys σ H p⟩
end
end EscR

/-! What stands in the heap: a store, a model; how a footprint changes. -/
namespace Esc
open PySem L2
abbrev Ft := Addr → Prop
def ivs (l : List Int) : List V := l.map V.int
theorem ivs_len (l : List Int) : (ivs l).length = l.length := List.length_map ..
theorem ivs_get {l : List Int} {i : Nat} {z : Int} (h : l[i]? = some z) : (ivs l)[i]? = some (V.int z) := by
  unfold ivs
  rw [List.getElem?_map, h]
  rfl
theorem ivs_app (a b : List Int) : ivs (a ++ b) = ivs a ++ ivs b := List.map_append ..
theorem ivs_set (l : List Int) (i : Nat) (z : Int) : (ivs l).set i (V.int z) = ivs (l.set i z) := by
  unfold ivs
  rw [List.map_set]
theorem ivs_rep (n : Nat) (z : Int) : ivs (List.replicate n z) = List.replicate n (V.int z) := by
  unfold ivs
  rw [List.map_replicate]

/-! ### footprints -/
/-- what changed lies in F; F' is F and new things -/
structure Ch (F F' : Ft) (H H' : Hp) : Prop where
  keep : ∀ b o, H b = some o → ¬ F b → H' b = some o
  new : ∀ b, F' b → F b ∨ H b = none
theorem Ch.refl (F : Ft) (H : Hp) : Ch F F H H := ⟨fun _ _ e _ => e, fun _ h => .inl h⟩
theorem Ch.same {F : Ft} {H H' : Hp} (s : Same H H') : Ch F F H H' := ⟨fun b o e _ => s b o e, fun _ h => .inl h⟩
theorem Ch.upd {F : Ft} {H : Hp} {a : Addr} {o : HO} (h : F a) : Ch F F H (upd H a o) := ⟨fun b u e n => by rw [upd_ne (fun z => n (by rw [z]; exact h))]; exact e, fun _ h => .inl h⟩
theorem Ch.trans {F F1 F2 : Ft} {H H1 H2 : Hp} (a : Ch F F1 H H1) (b : Ch F1 F2 H1 H2) : Ch F F2 H H2 where
  keep := fun c o e n => b.keep c o (a.keep c o e n) fun f => by
    rcases a.new c f with z | z
    · exact n z
    · rw [e] at z
      cases z
  new := fun c f => by
    rcases b.new c f with z | z
    · exact a.new c z
    · cases q : H c with
      | none => exact .inr rfl
      | some o =>
        refine .inl (Classical.byContradiction fun n => ?_)
        rw [a.keep c o q n] at z
        cases z
theorem Ch.new1 {F : Ft} {H : Hp} {a : Addr} {o : HO} (h : H a = none) : Ch F F H (L2.upd H a o) := Ch.same fun b u e => by rw [upd_ne (ne_of_none e h)]; exact e
theorem same_new {H : Hp} {a : Addr} {o : HO} (h : H a = none) : Same H (upd H a o) := fun b u e => by rw [upd_ne (ne_of_none e h)]; exact e

/-! ### a store -/
def sf (w o r : Addr) : List (Str × V) := [("words", .ref w), ("owners", .ref o), ("regions", .ref r), ("watch", .non)]
def rf (l : Bool) (a p r : Int) : List (Str × V) := [("lives", .bl l), ("amount", .int a), ("place", .int p), ("room", .int r)]
theorem sf_words (w o r : Addr) : (sf w o r).lookup ("words" : Str) = some (.ref w) := by kernel_rfl
theorem sf_owners (w o r : Addr) : (sf w o r).lookup ("owners" : Str) = some (.ref o) := by kernel_rfl
theorem sf_regions (w o r : Addr) : (sf w o r).lookup ("regions" : Str) = some (.ref r) := by kernel_rfl
theorem sf_watch (w o r : Addr) : (sf w o r).lookup ("watch" : Str) = some .non := by kernel_rfl
theorem rf_lives (l : Bool) (a p r : Int) : (rf l a p r).lookup ("lives" : Str) = some (.bl l) := by kernel_rfl
theorem rf_amount (l : Bool) (a p r : Int) : (rf l a p r).lookup ("amount" : Str) = some (.int a) := by kernel_rfl
theorem rf_place (l : Bool) (a p r : Int) : (rf l a p r).lookup ("place" : Str) = some (.int p) := by kernel_rfl
theorem rf_room (l : Bool) (a p r : Int) : (rf l a p r).lookup ("room" : Str) = some (.int r) := by kernel_rfl
theorem rf_plives (l x : Bool) (a p r : Int) : putF "lives" (.bl x) (rf l a p r) = rf x a p r := by kernel_rfl
theorem rf_pamount (l : Bool) (x a p r : Int) : putF "amount" (.int x) (rf l a p r) = rf l x p r := by kernel_rfl
theorem rf_pplace (l : Bool) (x a p r : Int) : putF "place" (.int x) (rf l a p r) = rf l a x r := by kernel_rfl
theorem rf_proom (l : Bool) (x a p r : Int) : putF "room" (.int x) (rf l a p r) = rf l a p x := by kernel_rfl
theorem rf_init : putF "room" (.int 0) (putF "place" (.int 0) (putF "amount" (.int 0) (putF "lives" (.bl true) []))) = rf true 0 0 0 := by kernel_rfl
theorem sf_init (w o r : Addr) : putF "watch" .non (putF "regions" (.ref r) (putF "owners" (.ref o) (putF "words" (.ref w) []))) = sf w o r := by kernel_rfl

/-- at p a Store: its lists, its regions' objects at as -/
structure StoreAt (CS CR : Addr) (H : Hp) (F : Ft) (p : Addr) (m : Mem) (w o r : Addr) (as : List Addr) : Prop where
  ob : ∃ dx, H p = some (.ins CS dx (sf w o r))
  hw : H w = some (.lst (ivs m.words))
  ho : H o = some (.lst (ivs m.owners))
  hr : H r = some (.lst (as.map V.ref))
  len : as.length = m.regs.length
  at_ : ∀ (j : Nat) a, as[j]? = some a → ∃ z, m.regs[j]? = some z ∧ ∃ dx, H a = some (.ins CR dx (rf z.lives z.amt z.place z.room))
  nd : ([p, w, o, r] ++ as).Nodup
  fin : ∀ a ∈ [p, w, o, r] ++ as, F a
  live : ∀ b, F b → ∃ u, H b = some u

section
variable {CS CR : Addr} {H H' : Hp} {F : Ft} {p w o r : Addr} {m : Mem} {as : List Addr}
theorem StoreAt.ne (S : StoreAt CS CR H F p m w o r as) : p ≠ w ∧ p ≠ o ∧ p ≠ r ∧ w ≠ o ∧ w ≠ r ∧ o ≠ r ∧ (∀ a ∈ as, p ≠ a ∧ w ≠ a ∧ o ≠ a ∧ r ≠ a) ∧ as.Nodup := by
  have h := S.nd
  simp only [List.cons_append, List.nil_append, List.nodup_cons, List.mem_cons, not_or] at h
  obtain ⟨⟨h1, h2, h3, h4⟩, ⟨h5, h6, h7⟩, ⟨h8, h9⟩, h10, h11⟩ := h
  exact ⟨h1, h2, h3, h5, h6, h8, fun a ha => ⟨fun e => h4 (by rw [e]; exact ha), fun e => h7 (by rw [e]; exact ha), fun e => h9 (by rw [e]; exact ha), fun e => h10 (by rw [e]; exact ha)⟩, h11⟩
theorem StoreAt.fp (S : StoreAt CS CR H F p m w o r as) : F p := S.fin _ (by simp)
theorem StoreAt.fw (S : StoreAt CS CR H F p m w o r as) : F w := S.fin _ (by simp)
theorem StoreAt.fo (S : StoreAt CS CR H F p m w o r as) : F o := S.fin _ (by simp)
theorem StoreAt.fr (S : StoreAt CS CR H F p m w o r as) : F r := S.fin _ (by simp)
theorem StoreAt.fa (S : StoreAt CS CR H F p m w o r as) {a : Addr} (h : a ∈ as) : F a := S.fin _ (by simp [h])
/-- all that lies in F stays -/
theorem StoreAt.mono (S : StoreAt CS CR H F p m w o r as) (k : ∀ b u, F b → H b = some u → H' b = some u) : StoreAt CS CR H' F p m w o r as where
  ob := let ⟨dx, e⟩ := S.ob; ⟨dx, k _ _ S.fp e⟩
  hw := k _ _ S.fw S.hw
  ho := k _ _ S.fo S.ho
  hr := k _ _ S.fr S.hr
  len := S.len
  at_ := fun j a h => let ⟨z, e, dx, q⟩ := S.at_ j a h; ⟨z, e, dx, k _ _ (S.fa (List.mem_of_getElem? h)) q⟩
  nd := S.nd
  fin := S.fin
  live := fun b f => let ⟨u, e⟩ := S.live b f; ⟨u, k _ _ f e⟩
theorem StoreAt.same (S : StoreAt CS CR H F p m w o r as) (s : Same H H') : StoreAt CS CR H' F p m w o r as := S.mono fun b u _ e => s b u e
theorem live_upd {a : Addr} {u : HO} (l : ∀ b, F b → ∃ u, H b = some u) : ∀ b, F b → ∃ v, upd H a u b = some v := fun b f => by
  by_cases hb : b = a
  · exact ⟨u, by rw [hb]; exact upd_same⟩
  · obtain ⟨v, e⟩ := l b f
    exact ⟨v, by rw [upd_ne hb]; exact e⟩
/-- its words -/
theorem StoreAt.setW (S : StoreAt CS CR H F p m w o r as) (ws : List Int) : StoreAt CS CR (upd H w (.lst (ivs ws))) F p { m with words := ws } w o r as := by
  obtain ⟨n1, n2, n3, n4, n5, n6, na, nd⟩ := S.ne
  exact ⟨let ⟨dx, e⟩ := S.ob; ⟨dx, by rw [upd_ne n1]; exact e⟩, upd_same, by rw [upd_ne n4.symm]; exact S.ho, by rw [upd_ne n5.symm]; exact S.hr, S.len,
    fun j a h => let ⟨z, e, dx, q⟩ := S.at_ j a h; ⟨z, e, dx, by rw [upd_ne (na a (List.mem_of_getElem? h)).2.1.symm]; exact q⟩, S.nd, S.fin, live_upd S.live⟩
/-- its owners -/
theorem StoreAt.setO (S : StoreAt CS CR H F p m w o r as) (os : List Int) : StoreAt CS CR (upd H o (.lst (ivs os))) F p { m with owners := os } w o r as := by
  obtain ⟨n1, n2, n3, n4, n5, n6, na, nd⟩ := S.ne
  exact ⟨let ⟨dx, e⟩ := S.ob; ⟨dx, by rw [upd_ne n2]; exact e⟩, by rw [upd_ne n4]; exact S.hw, upd_same, by rw [upd_ne n6.symm]; exact S.hr, S.len,
    fun j a h => let ⟨z, e, dx, q⟩ := S.at_ j a h; ⟨z, e, dx, by rw [upd_ne (na a (List.mem_of_getElem? h)).2.2.1.symm]; exact q⟩, S.nd, S.fin, live_upd S.live⟩
/-- one region's object -/
theorem StoreAt.setR (S : StoreAt CS CR H F p m w o r as) {j : Nat} {a dx : Addr} (hj : as[j]? = some a) (z : Reg) : StoreAt CS CR (upd H a (.ins CR dx (rf z.lives z.amt z.place z.room))) F p { m with regs := m.regs.set j z } w o r as := by
  obtain ⟨n1, n2, n3, n4, n5, n6, na, nd⟩ := S.ne
  obtain ⟨a1, a2, a3, a4⟩ := na a (List.mem_of_getElem? hj)
  have hjl : j < m.regs.length := by
    rw [← S.len]
    exact (List.getElem?_eq_some_iff.mp hj).1
  refine ⟨let ⟨dx, e⟩ := S.ob; ⟨dx, by rw [upd_ne a1]; exact e⟩, by rw [upd_ne a2]; exact S.hw, by rw [upd_ne a3]; exact S.ho, by rw [upd_ne a4]; exact S.hr, by rw [S.len]; exact (List.length_set ..).symm,
    fun i b h => ?_, S.nd, S.fin, live_upd S.live⟩
  by_cases e : i = j
  · subst e
    rw [hj] at h
    have hb : a = b := Option.some.inj h
    subst hb
    exact ⟨z, List.getElem?_set_self hjl, dx, upd_same⟩
  · have nb : b ≠ a := fun q => e (nd_ix nd h (by rw [q]; exact hj))
    obtain ⟨y, e1, dy, q⟩ := S.at_ i b h
    exact ⟨y, by
      show (m.regs.set j z)[i]? = some y
      rw [List.getElem?_set_ne (fun q => e q.symm)]
      exact e1, dy, by rw [upd_ne nb]; exact q⟩
theorem StoreAt.reg (S : StoreAt CS CR H F p m w o r as) {j : Nat} {z : Reg} (h : m.regs[j]? = some z) : ∃ a dx, as[j]? = some a ∧ H a = some (.ins CR dx (rf z.lives z.amt z.place z.room)) := by
  have hj : j < as.length := by
    rw [S.len]
    exact (List.getElem?_eq_some_iff.mp h).1
  obtain ⟨y, e, dx, q⟩ := S.at_ j _ (List.getElem?_eq_getElem hj)
  rw [h] at e
  cases e
  exact ⟨_, dx, List.getElem?_eq_getElem hj, q⟩
end
/-- what the store says of a region that has ended: no words -/
def nz (z : Reg) : Reg := { z with amt := if z.lives then z.amt else 0 }
def norm (m : Mem) : Mem := { m with regs := m.regs.map nz }
def IsStore (CS CR : Addr) (H : Hp) (F : Ft) (p : Addr) (m : Mem) : Prop := ∃ w o r as, StoreAt CS CR H F p (norm m) w o r as

/-! ### a model -/
structure ModelAt (H : Hp) (F : Ft) (p : Addr) (m : Mem) (o w l s a : Addr) (ss : List Addr) : Prop where
  ob : H p = some (.lst [.ref o, .ref w, .ref l, .ref s, .ref a])
  ho : H o = some (.lst (ivs m.owners))
  hw : H w = some (.lst (ivs m.words))
  hl : H l = some (.lst (m.regs.map fun z => V.bl z.lives))
  hs : H s = some (.lst (ss.map V.ref))
  ha : H a = some (.lst (ivs (m.regs.map (·.amt))))
  len : ss.length = m.regs.length
  at_ : ∀ (j : Nat) q, ss[j]? = some q → ∃ z, m.regs[j]? = some z ∧ H q = some (.lst [.int z.place, .int z.room])
  nd : ([p, o, w, l, s, a] ++ ss).Nodup
  fin : ∀ b ∈ [p, o, w, l, s, a] ++ ss, F b
  live : ∀ b, F b → ∃ u, H b = some u
section
variable {H H' : Hp} {F : Ft} {p o w l s a : Addr} {m : Mem} {ss : List Addr}
structure ModelNe (p o w l s a : Addr) (ss : List Addr) : Prop where
  po : p ≠ o
  pw : p ≠ w
  pl : p ≠ l
  ps : p ≠ s
  pa : p ≠ a
  ow : o ≠ w
  ol : o ≠ l
  os : o ≠ s
  oa : o ≠ a
  wl : w ≠ l
  ws : w ≠ s
  wa : w ≠ a
  ls : l ≠ s
  la : l ≠ a
  sa : s ≠ a
  q : ∀ q ∈ ss, p ≠ q ∧ o ≠ q ∧ w ≠ q ∧ l ≠ q ∧ s ≠ q ∧ a ≠ q
  nd : ss.Nodup
theorem ModelAt.ne (M : ModelAt H F p m o w l s a ss) : ModelNe p o w l s a ss := by
  have h := M.nd
  simp only [List.cons_append, List.nil_append, List.nodup_cons, List.mem_cons, not_or] at h
  obtain ⟨⟨h1, h2, h3, h4, h5, h6⟩, ⟨g1, g2, g3, g4, g5⟩, ⟨f1, f2, f3, f4⟩, ⟨e1, e2, e3⟩, ⟨d1, d2⟩, c1, c2⟩ := h
  exact ⟨h1, h2, h3, h4, h5, g1, g2, g3, g4, f1, f2, f3, e1, e2, d1, fun q hq => ⟨fun e => h6 (by rw [e]; exact hq), fun e => g5 (by rw [e]; exact hq), fun e => f4 (by rw [e]; exact hq), fun e => e3 (by rw [e]; exact hq), fun e => d2 (by rw [e]; exact hq), fun e => c1 (by rw [e]; exact hq)⟩, c2⟩
theorem ModelAt.fp (M : ModelAt H F p m o w l s a ss) : F p := M.fin _ (by simp)
theorem ModelAt.fo (M : ModelAt H F p m o w l s a ss) : F o := M.fin _ (by simp)
theorem ModelAt.fw (M : ModelAt H F p m o w l s a ss) : F w := M.fin _ (by simp)
theorem ModelAt.fl (M : ModelAt H F p m o w l s a ss) : F l := M.fin _ (by simp)
theorem ModelAt.fs (M : ModelAt H F p m o w l s a ss) : F s := M.fin _ (by simp)
theorem ModelAt.fa (M : ModelAt H F p m o w l s a ss) : F a := M.fin _ (by simp)
theorem ModelAt.fq (M : ModelAt H F p m o w l s a ss) {q : Addr} (h : q ∈ ss) : F q := M.fin _ (by simp [h])
theorem ModelAt.mono (M : ModelAt H F p m o w l s a ss) (k : ∀ b u, F b → H b = some u → H' b = some u) : ModelAt H' F p m o w l s a ss where
  ob := k _ _ M.fp M.ob
  ho := k _ _ M.fo M.ho
  hw := k _ _ M.fw M.hw
  hl := k _ _ M.fl M.hl
  hs := k _ _ M.fs M.hs
  ha := k _ _ M.fa M.ha
  len := M.len
  at_ := fun j q h => let ⟨z, e, y⟩ := M.at_ j q h; ⟨z, e, k _ _ (M.fq (List.mem_of_getElem? h)) y⟩
  nd := M.nd
  fin := M.fin
  live := fun b f => let ⟨u, e⟩ := M.live b f; ⟨u, k _ _ f e⟩
theorem ModelAt.same (M : ModelAt H F p m o w l s a ss) (k : Same H H') : ModelAt H' F p m o w l s a ss := M.mono fun b u _ e => k b u e
theorem ModelAt.setW (M : ModelAt H F p m o w l s a ss) (ws : List Int) : ModelAt (upd H w (.lst (ivs ws))) F p { m with words := ws } o w l s a ss := by
  have n := M.ne
  exact ⟨by rw [upd_ne n.pw]; exact M.ob, by rw [upd_ne n.ow]; exact M.ho, upd_same, by rw [upd_ne n.wl.symm]; exact M.hl, by rw [upd_ne n.ws.symm]; exact M.hs, by rw [upd_ne n.wa.symm]; exact M.ha, M.len,
    fun j q h => let ⟨z, e, y⟩ := M.at_ j q h; ⟨z, e, by rw [upd_ne (n.q q (List.mem_of_getElem? h)).2.2.1.symm]; exact y⟩, M.nd, M.fin, live_upd M.live⟩
theorem ModelAt.setO (M : ModelAt H F p m o w l s a ss) (os : List Int) : ModelAt (upd H o (.lst (ivs os))) F p { m with owners := os } o w l s a ss := by
  have n := M.ne
  exact ⟨by rw [upd_ne n.po]; exact M.ob, upd_same, by rw [upd_ne n.ow.symm]; exact M.hw, by rw [upd_ne n.ol.symm]; exact M.hl, by rw [upd_ne n.os.symm]; exact M.hs, by rw [upd_ne n.oa.symm]; exact M.ha, M.len,
    fun j q h => let ⟨z, e, y⟩ := M.at_ j q h; ⟨z, e, by rw [upd_ne (n.q q (List.mem_of_getElem? h)).2.1.symm]; exact y⟩, M.nd, M.fin, live_upd M.live⟩
/-- one region's amount -/
theorem ModelAt.setA (M : ModelAt H F p m o w l s a ss) {j : Nat} {z : Reg} (hj : m.regs[j]? = some z) (x : Int) : ModelAt (upd H a (.lst ((ivs (m.regs.map (·.amt))).set j (.int x)))) F p { m with regs := m.regs.set j { z with amt := x } } o w l s a ss := by
  have n := M.ne
  have hl := (List.getElem?_eq_some_iff.mp hj).1
  have e1 : (m.regs.set j { z with amt := x }).map (fun z => V.bl z.lives) = m.regs.map fun z => V.bl z.lives := by
    rw [List.map_set]
    exact List.ext_getElem? fun i => by
      rw [List.getElem?_set, List.length_map]
      by_cases e : j = i
      · subst e
        rw [if_pos rfl, if_pos hl, List.getElem?_map, hj]
        rfl
      · rw [if_neg e]
  refine ⟨by rw [upd_ne n.pa]; exact M.ob, by rw [upd_ne n.oa]; exact M.ho, by rw [upd_ne n.wa]; exact M.hw, by rw [upd_ne n.la]; exact (show _ = some (HO.lst ((m.regs.set j { z with amt := x }).map fun z => V.bl z.lives)) by rw [e1]; exact M.hl), by rw [upd_ne n.sa]; exact M.hs, ?_, by rw [M.len]; exact (List.length_set ..).symm,
    fun i q h => ?_, M.nd, M.fin, live_upd M.live⟩
  · rw [upd_same, ivs_set]
    show _ = some (HO.lst (ivs ((m.regs.set j { z with amt := x }).map (·.amt))))
    rw [List.map_set]
  · obtain ⟨y, e, g⟩ := M.at_ i q h
    rw [upd_ne (n.q q (List.mem_of_getElem? h)).2.2.2.2.2.symm]
    by_cases e2 : j = i
    · subst e2
      rw [hj] at e
      cases e
      exact ⟨{ z with amt := x }, List.getElem?_set_self hl, g⟩
    · exact ⟨y, by
        show (m.regs.set j _)[i]? = some y
        rw [List.getElem?_set_ne e2]
        exact e, g⟩
/-- one region's spot -/
theorem ModelAt.setS (M : ModelAt H F p m o w l s a ss) {j : Nat} {q : Addr} {z : Reg} (hj : m.regs[j]? = some z) (hq : ss[j]? = some q) (x y : Int) : ModelAt (upd H q (.lst [.int x, .int y])) F p { m with regs := m.regs.set j { z with place := x, room := y } } o w l s a ss := by
  have n := M.ne
  have hl := (List.getElem?_eq_some_iff.mp hj).1
  obtain ⟨q1, q2, q3, q4, q5, q6⟩ := n.q q (List.mem_of_getElem? hq)
  have e1 : (m.regs.set j { z with place := x, room := y }).map (fun z => V.bl z.lives) = m.regs.map fun z => V.bl z.lives := by
    rw [List.map_set]
    exact List.ext_getElem? fun i => by
      rw [List.getElem?_set, List.length_map]
      by_cases e : j = i
      · subst e
        rw [if_pos rfl, if_pos hl, List.getElem?_map, hj]
        rfl
      · rw [if_neg e]
  have e2 : (m.regs.set j { z with place := x, room := y }).map (·.amt) = m.regs.map (·.amt) := by
    rw [List.map_set]
    exact List.ext_getElem? fun i => by
      rw [List.getElem?_set, List.length_map]
      by_cases e : j = i
      · subst e
        rw [if_pos rfl, if_pos hl, List.getElem?_map, hj]
        rfl
      · rw [if_neg e]
  refine ⟨by rw [upd_ne q1]; exact M.ob, by rw [upd_ne q2]; exact M.ho, by rw [upd_ne q3]; exact M.hw, by rw [upd_ne q4]; exact (show _ = some (HO.lst ((m.regs.set j { z with place := x, room := y }).map fun z => V.bl z.lives)) by rw [e1]; exact M.hl),
    by rw [upd_ne q5]; exact M.hs, by rw [upd_ne q6]; exact (show _ = some (HO.lst (ivs ((m.regs.set j { z with place := x, room := y }).map (·.amt)))) by rw [e2]; exact M.ha), by rw [M.len]; exact (List.length_set ..).symm,
    fun i b h => ?_, M.nd, M.fin, live_upd M.live⟩
  by_cases e : i = j
  · subst e
    rw [hq] at h
    have hb : q = b := Option.some.inj h
    subst hb
    exact ⟨{ z with place := x, room := y }, List.getElem?_set_self hl, upd_same⟩
  · have nb : b ≠ q := fun g => e (nd_ix n.nd h (by rw [g]; exact hq))
    obtain ⟨v, e1, g⟩ := M.at_ i b h
    exact ⟨v, by
      show (m.regs.set j _)[i]? = some v
      rw [List.getElem?_set_ne (fun g => e g.symm)]
      exact e1, by rw [upd_ne nb]; exact g⟩
/-- one region's life -/
theorem ModelAt.setL (M : ModelAt H F p m o w l s a ss) {j : Nat} {z : Reg} (hj : m.regs[j]? = some z) (x : Bool) : ModelAt (upd H l (.lst ((m.regs.map fun z => V.bl z.lives).set j (.bl x)))) F p { m with regs := m.regs.set j { z with lives := x } } o w l s a ss := by
  have n := M.ne
  have hl := (List.getElem?_eq_some_iff.mp hj).1
  have e2 : (m.regs.set j { z with lives := x }).map (·.amt) = m.regs.map (·.amt) := by
    rw [List.map_set]
    exact List.ext_getElem? fun i => by
      rw [List.getElem?_set, List.length_map]
      by_cases e : j = i
      · subst e
        rw [if_pos rfl, if_pos hl, List.getElem?_map, hj]
        rfl
      · rw [if_neg e]
  refine ⟨by rw [upd_ne n.pl]; exact M.ob, by rw [upd_ne n.ol]; exact M.ho, by rw [upd_ne n.wl]; exact M.hw, ?_, by rw [upd_ne n.ls.symm]; exact M.hs, by rw [upd_ne n.la.symm]; exact (show _ = some (HO.lst (ivs ((m.regs.set j { z with lives := x }).map (·.amt)))) by rw [e2]; exact M.ha), by rw [M.len]; exact (List.length_set ..).symm,
    fun i q h => ?_, M.nd, M.fin, live_upd M.live⟩
  · rw [upd_same]
    show _ = some (HO.lst ((m.regs.set j { z with lives := x }).map fun z => V.bl z.lives))
    rw [List.map_set]
  · obtain ⟨y, e, g⟩ := M.at_ i q h
    rw [upd_ne (n.q q (List.mem_of_getElem? h)).2.2.2.1.symm]
    by_cases e2 : j = i
    · subst e2
      rw [hj] at e
      cases e
      exact ⟨{ z with lives := x }, List.getElem?_set_self hl, g⟩
    · exact ⟨y, by
        show (m.regs.set j _)[i]? = some y
        rw [List.getElem?_set_ne e2]
        exact e, g⟩
theorem ModelAt.spot (M : ModelAt H F p m o w l s a ss) {j : Nat} {z : Reg} (h : m.regs[j]? = some z) : ∃ q, ss[j]? = some q ∧ H q = some (.lst [.int z.place, .int z.room]) := by
  have hj : j < ss.length := by
    rw [M.len]
    exact (List.getElem?_eq_some_iff.mp h).1
  obtain ⟨y, e, q⟩ := M.at_ j _ (List.getElem?_eq_getElem hj)
  rw [h] at e
  cases e
  exact ⟨_, List.getElem?_eq_getElem hj, q⟩
end
def IsModel (H : Hp) (F : Ft) (p : Addr) (m : Mem) : Prop := ∃ o w l s a ss, ModelAt H F p m o w l s a ss
end Esc

/-! The small methods of the store. -/
namespace Esc
open PySem L2
/-- what the written part says -/
structure Txt (K : PySem.W.Frag) (mg : Str → Option Value) (CS CR : Addr) : Prop where
  clS : Cls K CS
  clR : Cls K CR
  nW : NoAttr K CS "words"
  nO : NoAttr K CS "owners"
  nR : NoAttr K CS "regions"
  nX : NoAttr K CS "watch"
  nL : NoAttr K CR "lives"
  nA : NoAttr K CR "amount"
  nP : NoAttr K CR "place"
  nM : NoAttr K CR "room"
  mgS : mg "Store" = some (.ref CS)
  mgR : mg "RegionState" = some (.ref CR)
  bLen : mg "len" = none
  bRange : mg "range" = none
  bList : mg "list" = none
  bEnum : mg "enumerate" = none
  bSum : mg "sum" = none
  bIsi : mg "isinstance" = none
  bInt : mg "int" = none
  bBool : mg "bool" = none
  bAbs : mg "abs" = none
  bIter : mg "iter" = none
  pw : ∃ t, mg "PAGE_WORDS" = some (.int 8 t)

theorem pl {f : Str} {v : V} {fs : List (Str × V)} {n : Nat} (h : fs.length < n) : (putF f v fs).length < n + 1 := Nat.lt_succ_of_le (Nat.le_trans (length_putF f v fs) h)
section specs
def spIsInt : Sp := fun vs H Q _ => ∃ i : Int, vs = [.int i] ∧ Q (.bl true) H
def spReg (CR : Addr) : Sp := fun vs H Q _ => ∃ p dx, vs = [.ref p] ∧ H p = some (.ins CR dx []) ∧ Q .non (upd H p (.ins CR dx (rf true 0 0 0)))
def spStore (CS CR : Addr) : Sp := fun vs H Q _ => ∃ p dx, vs = [.ref p] ∧ H p = some (.ins CS dx []) ∧
  ∀ H' F' w o r, StoreAt CS CR H' F' p emptyM w o r [] → (∀ b u, H b = some u → b ≠ p → H' b = some u) → (∀ b, F' b → b = p ∨ H b = none) → Q .non H'
def spRecord (CS : Addr) : Sp := fun vs H Q _ => ∃ p dx w o r a b c, vs = [.ref p, a, b, c] ∧ H p = some (.ins CS dx (sf w o r)) ∧ Q .non H
def spIsCur (CS CR : Addr) : Sp := fun vs H Q _ => ∃ p F m w o r as i, vs = [.ref p, .int i] ∧ StoreAt CS CR H F p m w o r as ∧ Q (.bl (openM m i)) H
def spBegin (CS CR : Addr) : Sp := fun vs H Q _ => ∃ p F m w o r as, vs = [.ref p] ∧ StoreAt CS CR H F p m w o r as ∧ m.regs.length < 1000 ∧
  ∀ H' F' a, StoreAt CS CR H' F' p (beginM m) w o r (as ++ [a]) → Ch F F' H H' → Q (.int m.regs.length) H'
def spOwner (CS CR : Addr) : Sp := fun vs H Q _ => ∃ p F m w o r as a, vs = [.ref p, .int a] ∧ StoreAt CS CR H F p m w o r as ∧ Wf m ∧ m.words.length < 10000 ∧ Q (.int (ownerM m a)) H
def spRead (CS CR : Addr) : Sp := fun vs H Q _ => ∃ p F m w o r as a, vs = [.ref p, .int a] ∧ StoreAt CS CR H F p m w o r as ∧ Wf m ∧ m.words.length < 10000 ∧ Q (.int (readM m a)) H
def spWrite (CS CR : Addr) : Sp := fun vs H Q _ => ∃ p F m w o r as a v, vs = [.ref p, .int a, .int v] ∧ StoreAt CS CR H F p m w o r as ∧ Wf m ∧ m.words.length < 10000 ∧
  ∀ H', StoreAt CS CR H' F p (writeM m a v) w o r as → Ch F F H H' → Q .non H'
def spHeld (CS CR : Addr) : Sp := fun vs H Q _ => ∃ p F m w o r as, vs = [.ref p] ∧ StoreAt CS CR H F p (norm m) w o r as ∧ m.regs.length < 1000 ∧ ∀ H', Same H H' → Q (.int (heldM m)) H'
def spPages (CS CR : Addr) : Sp := fun vs H Q _ => ∃ p F m w o r as, vs = [.ref p] ∧ StoreAt CS CR H F p m w o r as ∧ Q (.int (m.owners.length - (m.owners.count (-1) : Nat))) H
def spWaiting (CS CR : Addr) : Sp := fun vs H Q _ => ∃ p F m w o r as, vs = [.ref p] ∧ StoreAt CS CR H F p m w o r as ∧ Q (.int (m.owners.count (-1) : Nat)) H
def spLen (CS CR : Addr) : Sp := fun vs H Q _ => ∃ p F m w o r as, vs = [.ref p] ∧ StoreAt CS CR H F p m w o r as ∧ Q (.int m.words.length) H
def spIter (CS CR : Addr) : Sp := fun vs H Q _ => ∃ p F m w o r as, vs = [.ref p] ∧ StoreAt CS CR H F p m w o r as ∧ ∀ it, H it = none → Q (.ref it) (upd H it (ItO w it 0))
def spContains (CS CR : Addr) : Sp := fun vs H Q _ => ∃ p F m w o r as a, vs = [.ref p, .int a] ∧ StoreAt CS CR H F p m w o r as ∧ Q (.bl (decide (0 ≤ a ∧ a < m.words.length))) H
end specs

section
variable {P : Program} {w : World} {K : PySem.W.Frag} {mg : Str → Option Value} {base : Heap} {CS CR : Addr}
theorem scIs : FnScope ["value"] ["value"] (defScope sIsInt) := ⟨rfl, rfl, rfl, by decide +kernel, rfl, by decide +kernel, by decide +kernel⟩
theorem tyx_int {K : PySem.W.Frag} {H : Hp} {i : Int} : TyX K H (.int i) (.type "int") := .base (.int i)
theorem ok_isint {f : Addr} {fd : FuncData} (F : Fun K "is_integer" "is_integer" sIsInt f fd) (T : Txt K mg CS CR) : FnOk P w K mg base CX0 1 f fd ["value"] spIsInt := by
  refine F.ok scIs (fun vs H Q E h => ?_) (fun cdv A outer s H vs Q E hr h => ?_)
  · obtain ⟨i, rfl, _⟩ := h
    rfl
  · obtain ⟨i, rfl, q⟩ := h
    refine ⟨_, pss_one (ps_ret (pe_and (pe_callB call_isi (by rfl) T.bIsi (by decide +kernel) (pa_cons (pv 0) (pa_cons (pe_bltn rfl T.bInt PySem.Pv.boot_int (v := .ty "int") rfl) pa_nil)))
      (pe_one (pe_not (pe_callB call_isi (by rfl) T.bIsi (by decide +kernel) (pa_cons (pv 0) (pa_cons (pe_bltn rfl T.bBool PySem.Pv.boot_bool (v := .ty "bool") rfl) pa_nil))))))), ?_⟩
    refine ⟨_, rfl, _, _, _, _, true, rfl, .ty _, tyx_int, kit_ty (by decide +kernel), true, rfl, ?_⟩
    refine ⟨_, rfl, _, _, _, _, false, rfl, .ty _, tyx_int, kit_ty (by decide +kernel), false, rfl, q⟩

theorem scRI : FnScope ["self"] ["self"] (defScope sReg) := ⟨rfl, rfl, rfl, by decide +kernel, rfl, by decide +kernel, by decide +kernel⟩
theorem ok_reg {f : Addr} {fd : FuncData} (F : Fun K "__init__" "RegionState.__init__" sReg f fd) (T : Txt K mg CS CR) : FnOk P w K mg base CX0 1 f fd ["self"] (spReg CR) := by
  refine F.ok scRI (fun vs H Q E h => ?_) (fun cdv A outer s H vs Q E hr h => ?_)
  · obtain ⟨p, dx, rfl, _⟩ := h
    rfl
  · obtain ⟨p, dx, rfl, hp, q⟩ := h
    refine ⟨_, pss_cons (ps_fld (pv 0) pe_bl rfl) (pss_cons (ps_fld (pv 0) pe_int rfl) (pss_cons (ps_fld (pv 0) pe_int rfl) (pss_one (ps_fld (pv 0) pe_int rfl)))), ?_⟩
    refine ⟨_, rfl, p, CR, dx, _, rfl, hp, T.clR, T.nL, (by decide), _, rfl, p, CR, dx, _, rfl, upd_same, T.clR, T.nA, (by decide), _, rfl, p, CR, dx, _, rfl, upd_same, T.clR, T.nP, (by decide), _, rfl, p, CR, dx, _, rfl, upd_same, T.clR, T.nM, (by decide), ?_⟩
    rw [upd_upd, upd_upd, upd_upd, rf_init]
    exact q

theorem scSI : FnScope ["self"] ["self"] (defScope sStore) := ⟨rfl, rfl, rfl, by decide +kernel, rfl, by decide +kernel, by decide +kernel⟩
theorem ok_store {f : Addr} {fd : FuncData} (F : Fun K "__init__" "Store.__init__" sStore f fd) (T : Txt K mg CS CR) : FnOk P w K mg base CX0 1 f fd ["self"] (spStore CS CR) := by
  refine F.ok scSI (fun vs H Q E h => ?_) (fun cdv A outer s H vs Q E hr h => ?_)
  · obtain ⟨p, dx, rfl, _⟩ := h
    rfl
  · obtain ⟨p, dx, rfl, hp, q⟩ := h
    refine ⟨_, pss_cons (ps_fld (pv 0) (pe_lst pa_nil) rfl) (pss_cons (ps_fld (pv 0) (pe_lst pa_nil) rfl) (pss_cons (ps_fld (pv 0) (pe_lst pa_nil) rfl) (pss_one (ps_fld (pv 0) pe_non rfl)))), ?_⟩
    refine ⟨by decide, fun ww hw => ?_⟩
    have pw : p ≠ ww := ne_of_none hp hw
    refine ⟨_, rfl, p, CS, dx, _, rfl, (by rw [upd_ne pw]; exact hp), T.clS, T.nW, (by decide), by decide, fun oo ho => ?_⟩
    have po : p ≠ oo := ne_of_none (upd_same) ho
    have ho1 : upd H ww (.lst []) oo = none := by rw [upd_ne po.symm] at ho; exact ho
    have wo : ww ≠ oo := ne_of_none upd_same ho1
    have ho2 : H oo = none := by rw [upd_ne wo.symm] at ho1; exact ho1
    refine ⟨_, rfl, p, CS, dx, _, rfl, (by rw [upd_ne po]; exact upd_same), T.clS, T.nO, pl (by decide), by decide, fun rr hr' => ?_⟩
    have pr : p ≠ rr := ne_of_none (upd_same) hr'
    rw [upd_ne pr.symm] at hr'
    have or : oo ≠ rr := ne_of_none (upd_same) hr'
    rw [upd_ne or.symm, upd_ne pr.symm] at hr'
    have wr : ww ≠ rr := ne_of_none (upd_same) hr'
    rw [upd_ne wr.symm] at hr'
    refine ⟨_, rfl, p, CS, dx, _, rfl, (by rw [upd_ne pr]; exact upd_same), T.clS, T.nR, pl (pl (by decide)), ?_⟩
    refine ⟨_, rfl, p, CS, dx, _, rfl, upd_same, T.clS, T.nX, pl (pl (pl (by decide))), ?_⟩
    have ew : ∀ {a b c d : HO}, upd (upd (upd (upd (upd (upd (upd H ww (.lst [])) p a) oo (.lst [])) p b) rr (.lst [])) p c) p d ww = some (.lst []) := by
      intro a b c d
      rw [upd_ne pw.symm, upd_ne pw.symm, upd_ne wr, upd_ne pw.symm, upd_ne wo, upd_ne pw.symm, upd_same]
    have eo : ∀ {a b c d : HO}, upd (upd (upd (upd (upd (upd (upd H ww (.lst [])) p a) oo (.lst [])) p b) rr (.lst [])) p c) p d oo = some (.lst []) := by
      intro a b c d
      rw [upd_ne po.symm, upd_ne po.symm, upd_ne or, upd_ne po.symm, upd_same]
    have er : ∀ {a b c d : HO}, upd (upd (upd (upd (upd (upd (upd H ww (.lst [])) p a) oo (.lst [])) p b) rr (.lst [])) p c) p d rr = some (.lst []) := by
      intro a b c d
      rw [upd_ne pr.symm, upd_ne pr.symm, upd_same]
    refine q _ (fun b => b = p ∨ b = ww ∨ b = oo ∨ b = rr) ww oo rr ⟨⟨dx, by rw [upd_same, sf_init]⟩, ew, eo, er, rfl, fun j a h => by simp at h, ?_, ?_, ?_⟩ (fun b u e nb => ?_) ?_
    · simp [pw, po, pr, wo, wr, or]
    · intro a ha
      simp at ha
      exact ha
    · rintro b (rfl | rfl | rfl | rfl)
      · exact ⟨_, upd_same⟩
      · exact ⟨_, ew⟩
      · exact ⟨_, eo⟩
      · exact ⟨_, er⟩
    · rw [upd_ne nb, upd_ne nb, upd_ne (ne_of_none e hr'), upd_ne nb, upd_ne (ne_of_none e ho2), upd_ne nb, upd_ne (ne_of_none e hw)]
      exact e
    · rintro b (rfl | rfl | rfl | rfl)
      · exact .inl rfl
      · exact .inr hw
      · exact .inr ho2
      · exact .inr hr'

theorem scRec : FnScope ["self", "what", "region", "address"] ["self", "what", "region", "address"] (defScope sRecord) := ⟨rfl, rfl, rfl, by decide +kernel, rfl, by decide +kernel, by decide +kernel⟩
theorem ok_record {f : Addr} {fd : FuncData} (F : Fun K "record" "Store.record" sRecord f fd) (T : Txt K mg CS CR) : FnOk P w K mg base CX0 1 f fd ["self", "what", "region", "address"] (spRecord CS) := by
  refine F.ok scRec (fun vs H Q E h => ?_) (fun cdv A outer s H vs Q E hr h => ?_)
  · obtain ⟨p, dx, w, o, r, a, b, c, rfl, _⟩ := h
    rfl
  · obtain ⟨p, dx, w, o, r, a, b, c, rfl, hp, q⟩ := h
    refine ⟨_, pss_one (ps_if (pt_cmp (pc_notN (pe_fld (pv 0) rfl))) (pss_one (ps_expr (pe_bm PySem.F.plainAttrs_list PySem.F.slot_list_append PySem.F.type_list_append mt_append (pe_fld (pe_fld (pv 0) rfl) rfl) (pa_cons (pe_tup (pa_cons (pv 1) (pa_cons (pv 2) (pa_cons (pv 3) pa_nil)))) pa_nil)))) pss_nil), ?_⟩
    refine ⟨_, rfl, p, CS, dx, _, _, rfl, hp, T.clS, T.nX, sf_watch _ _ _, _, rfl, ?_⟩
    exact q

theorem scCur : FnScope ["self", "region"] ["self", "region"] (defScope sIsCur) := ⟨rfl, rfl, rfl, by decide +kernel, rfl, by decide +kernel, by decide +kernel⟩
theorem ok_iscur {f : Addr} {fd : FuncData} (F : Fun K "is_current" "Store.is_current" sIsCur f fd) (T : Txt K mg CS CR) (cI : C8.Cal P w K mg base 1 "is_integer" spIsInt []) : FnOk P w K mg base CX0 2 f fd ["self", "region"] (spIsCur CS CR) := by
  refine F.ok scCur (fun vs H Q E h => ?_) (fun cdv A outer s H vs Q E hr h => ?_)
  · obtain ⟨p, F, m, w, o, r, as, i, rfl, _⟩ := h
    rfl
  · obtain ⟨p, F, m, w, o, r, as, i, rfl, S, q⟩ := h
    refine ⟨_, pss_one (ps_ret (pe_and (C8.pe_c cI hr (Nat.le_refl _) rfl (pa_cons (pv 1) pa_nil)) (pe_and (pe_chain op_le op_lt pe_int (pv 1) (pe_callB call_len_seq (by rfl) T.bLen PySem.boot_len (pa_cons (pe_fld (pv 0) rfl) pa_nil)))
      (pe_one (pe_fld (pe_ix ix_list (pe_fld (pv 0) rfl) (pv 1) (fun _ _ => rfl)) rfl))))), ?_⟩
    obtain ⟨dx, hp⟩ := S.ob
    refine ⟨_, rfl, i, rfl, true, rfl, _, rfl, _, _, rfl, rfl, _, rfl, ?_⟩
    unfold openM at q
    by_cases h0 : 0 ≤ i
    · rw [if_pos (decide_eq_true h0)]
      refine ⟨_, rfl, p, CS, dx, _, _, rfl, hp, T.clS, T.nR, sf_regions _ _ _, r, _, rfl, .inl (SqL.of S.hr), _, _, rfl, rfl, _, rfl, ?_⟩
      rw [List.length_map, S.len]
      by_cases h1 : i < m.regs.length
      · rw [if_pos (decide_eq_true h1)]
        have hn : i.toNat < m.regs.length := by omega
        obtain ⟨a, da, ea, ha⟩ := S.reg (List.getElem?_eq_getElem hn)
        refine ⟨_, rfl, p, CS, dx, _, _, rfl, hp, T.clS, T.nR, sf_regions _ _ _, _, rfl, r, _, _, _, rfl, rfl, SqL.of S.hr, at_of (j := i.toNat) (v := V.ref a) (by omega) (by rw [List.getElem?_map, ea]; rfl), a, CR, da, _, _, rfl, ha, T.clR, T.nL, rf_lives _ _ _ _, ?_⟩
        rw [decide_eq_true (⟨h0, h1⟩ : 0 ≤ i ∧ i < m.regs.length), Bool.true_and, List.getElem?_eq_getElem hn] at q
        exact q
      · rw [if_neg (by rw [decide_eq_false h1]; exact Bool.false_ne_true)]
        rw [decide_eq_false (fun z : 0 ≤ i ∧ i < m.regs.length => h1 z.2), Bool.false_and] at q
        exact q
    · rw [if_neg (by rw [decide_eq_false h0]; exact Bool.false_ne_true)]
      rw [decide_eq_false (fun z : 0 ≤ i ∧ i < m.regs.length => h0 z.1), Bool.false_and] at q
      exact ⟨false, rfl, q⟩
end
end Esc

/-! begin, take. -/
namespace Esc
open PySem L2
theorem pe_mk0 {X : Cx} {k j : Nat} {C : Addr} {x : Str} {sp : Sp} {dvs : List V} {p pos : Pos} (c : C8.Mak X.prog X.w X.K X.mg X.base k x C sp dvs) (hr : Room j X.A) (hk : k + 1 ≤ j) (hg : Gl X x)
    (hdb : (x == ("__debug__" : Str)) = false := by decide) : PE X (.Call (.Name x p) [] [] pos) (tMake C sp dvs C8.E0 tNil) := by
  obtain ⟨f, fd, ps, ds, M, F, hm, b, d⟩ := c.ex
  exact pe_make0 M F (hr.mono hk) hg hm b d C8.pass0 hdb

/-! ### lists of ints -/
theorem dps_ivs {K : PySem.W.Frag} {H : Hp} : ∀ l : List Int, DpAll K H (ivs l) (l.map PyData.int)
  | [] => .nil
  | i :: l => .cons (.int i) (dps_ivs l)
theorem eqv_ivs (a b : List Int) : PyData.eqv (.list (a.map PyData.int)) (.list (b.map PyData.int)) = decide (a = b) := by
  rw [← PySem.W.ked_eqvAll]
  simp only [PyData.eqv]
theorem cut_ivs (os : List Int) (i n : Nat) (h : i ≤ os.length) : cutV (ivs os) (some (i : Int)) (some ((i : Int) + (n : Int))) = ivs ((os.drop i).take n) := by
  have e : (ivs os).length = os.length := ivs_len _
  unfold cutV HT.sIx
  rw [e]
  simp only []
  rw [if_neg (by omega), if_neg (by omega)]
  unfold ivs
  rw [List.map_take, List.map_drop]
  have e1 : min ((i : Int).toNat) os.length = i := by omega
  have e2 : min (((i : Int) + (n : Int)).toNat) os.length = min (i + n) os.length := by omega
  rw [e1, e2]
  apply List.ext_getElem?
  intro j
  rw [List.getElem?_take, List.getElem?_take, List.getElem?_drop, List.getElem?_map]
  by_cases q : i + j < os.length
  · by_cases q2 : j < n
    · rw [if_pos (by omega), if_pos q2]
    · rw [if_neg (by omega), if_neg q2]
  · rw [List.getElem?_eq_none_iff.mpr (by omega)]
    simp
theorem rep_ivs (n : Nat) (z : Int) : (List.replicate n [V.int z]).flatten = ivs (List.replicate n z) := by
  rw [ivs_rep]
  induction n with
  | zero => rfl
  | succ n ih => rw [List.replicate_succ, List.flatten_cons, ih, List.replicate_succ]; rfl
theorem ixn_nat {n i : Nat} (h : i < n) : ixN n (i : Int) = some i := by
  unfold ixN
  rw [if_pos (by omega), if_pos (by omega), Int.toNat_natCast]

/-! ### a new region -/
section
variable {CS CR : Addr} {H H' : Hp} {F : Ft} {p w o r : Addr} {m : Mem} {as : List Addr}
theorem StoreAt.addR (S : StoreAt CS CR H F p m w o r as) {x : Addr} (hx : H x = none) (k : ∀ b u, H b = some u → b ≠ r → H' b = some u) (h1 : H' r = some (.lst (as.map V.ref ++ [.ref x]))) (h2 : ∃ dx, H' x = some (.ins CR dx (rf true 0 0 0))) :
    StoreAt CS CR H' (fun b => F b ∨ b = x) p (beginM m) w o r (as ++ [x]) ∧ Ch F (fun b => F b ∨ b = x) H H' := by
  obtain ⟨n1, n2, n3, n4, n5, n6, na, nd⟩ := S.ne
  have nx : ∀ b, F b → b ≠ x := fun b f e => by
    obtain ⟨u, q⟩ := S.live b f
    rw [e, hx] at q
    cases q
  refine ⟨⟨let ⟨dx, e⟩ := S.ob; ⟨dx, k _ _ e n3⟩, k _ _ S.hw n5, k _ _ S.ho n6, by rw [h1, List.map_append]; rfl, by
      show _ = (m.regs ++ _).length
      rw [List.length_append, List.length_append, S.len]; rfl, fun j a ha => ?_, ?_, fun a ha => ?_, ?_⟩, fun b u e n => k b u e (fun z => n (by rw [z]; exact S.fr)), ?_⟩
  · show ∃ z, (m.regs ++ [⟨true, 0, 0, 0⟩] : List Reg)[j]? = some z ∧ _
    by_cases hj : j < as.length
    · rw [List.getElem?_append_left hj] at ha
      obtain ⟨z, e, dx, q⟩ := S.at_ j a ha
      exact ⟨z, by rw [List.getElem?_append_left (by rw [← S.len]; exact hj)]; exact e, dx, k _ _ q (na a (List.mem_of_getElem? ha)).2.2.2.symm⟩
    · rw [List.getElem?_append_right (by omega)] at ha
      have hj0 : j - as.length = 0 := by
        have := (List.getElem?_eq_some_iff.mp ha).1
        simp at this
        omega
      rw [hj0] at ha
      have e : x = a := Option.some.inj ha
      subst e
      exact ⟨⟨true, 0, 0, 0⟩, by rw [List.getElem?_append_right (by rw [← S.len]; omega), ← S.len, hj0]; rfl, h2⟩
  · have h := S.nd
    rw [← List.append_assoc, List.nodup_append]
    refine ⟨h, by simp, fun a ha b hb => ?_⟩
    have hb : b = x := by simpa using hb
    rw [hb]
    exact nx a (S.fin a ha)
  · rw [← List.append_assoc, List.mem_append] at ha
    rcases ha with ha | ha
    · exact .inl (S.fin a ha)
    · exact .inr (by simpa using ha)
  · rintro b (f | rfl)
    · obtain ⟨u, e⟩ := S.live b f
      by_cases q : b = r
      · exact ⟨_, by rw [q]; exact h1⟩
      · exact ⟨u, k b u e q⟩
    · obtain ⟨dx, e⟩ := h2
      exact ⟨_, e⟩
  · rintro b (f | rfl)
    · exact .inl f
    · exact .inr hx
end

def spTake (CS CR : Addr) : Sp := fun vs H Q _ => ∃ p F m w o r as, ∃ (n : Nat) (i : Int), vs = [.ref p, .int n, .int i] ∧ StoreAt CS CR H F p m w o r as ∧ 0 < n ∧ n ≤ 5 ∧ m.owners.length < 1000 ∧ m.words.length < 10000 ∧
  ∀ H', StoreAt CS CR H' F p (takeM m n i) w o r as → Ch F F H H' → Q (.int (firstFree m.owners n)) H'

section
variable {P : Program} {w : World} {K : PySem.W.Frag} {mg : Str → Option Value} {base : Heap} {CS CR : Addr}
theorem scBe : FnScope ["self", "region"] ["self"] (defScope sBegin) := ⟨rfl, rfl, rfl, by decide +kernel, rfl, by decide +kernel, by decide +kernel⟩
theorem ok_begin {f : Addr} {fd : FuncData} (F : Fun K "begin" "Store.begin" sBegin f fd) (T : Txt K mg CS CR) (mk : C8.Mak P w K mg base 1 "RegionState" CR (spReg CR) []) (mR : C8.Met P w K mg base 1 CS "record" (spRecord CS) []) : FnOk P w K mg base CX0 3 f fd ["self"] (spBegin CS CR) := by
  refine F.ok scBe (fun vs H Q E h => ?_) (fun cdv A outer s H vs Q E hr h => ?_)
  · obtain ⟨p, F, m, w, o, r, as, rfl, _⟩ := h
    rfl
  · obtain ⟨p, F, m, ww, o, r, as, rfl, S, hl, q⟩ := h
    refine ⟨_, pss_cons (ps_set (i := 1) scBe.nd rfl (Or.inl rfl) (pe_callB call_len_seq (by rfl) T.bLen PySem.boot_len (pa_cons (pe_fld (pv 0) rfl) pa_nil)))
      (pss_cons (ps_expr (pe_bm PySem.F.plainAttrs_list PySem.F.slot_list_append PySem.F.type_list_append mt_append (pe_fld (pv 0) rfl) (pa_cons (pe_mk0 mk hr (by decide) rfl) pa_nil)))
      (pss_cons (ps_expr (C8.pe_mt mR hr (by decide) (pv 0) (pa_cons pe_str (pa_cons (pv 1) (pa_cons pe_int pa_nil))))) (pss_one (ps_ret (pv 1))))), ?_⟩
    obtain ⟨dx, hp⟩ := S.ob
    obtain ⟨n1, n2, n3, n4, n5, n6, na, nd⟩ := S.ne
    refine ⟨_, rfl, p, CS, dx, _, _, rfl, hp, T.clS, T.nR, sf_regions _ _ _, r, _, rfl, .inl (SqL.of S.hr), ?_⟩
    refine ⟨_, rfl, p, CS, dx, _, _, rfl, hp, T.clS, T.nR, sf_regions _ _ _, .inl ⟨rfl, _, SqL.of S.hr⟩, ?_⟩
    intro x d hx hd nex
    have k0 : ∀ (u v u2 : HO) b z, H b = some z → upd (upd (upd H d u) x v) x u2 b = some z := fun u v u2 b z e => by
      rw [upd_ne (ne_of_none e hx), upd_ne (ne_of_none e hx), upd_ne (ne_of_none e hd)]
      exact e
    refine ⟨x, d, rfl, upd_same, rfl, r, _, _, rfl, rfl, k0 _ _ _ _ _ S.hr, (by rw [List.length_map, S.len]; exact Nat.lt_trans hl (by decide)), ?_⟩
    have nrx : r ≠ x := ne_of_none S.hr hx
    have k1 : ∀ (u v u2 u3 : HO) b z, H b = some z → b ≠ r → upd (upd (upd (upd H d u) x v) x u2) r u3 b = some z := fun u v u2 u3 b z e nb => by
      rw [upd_ne nb]
      exact k0 _ _ _ _ _ e
    refine ⟨_, rfl, p, dx, _, rfl, k1 _ _ _ _ _ _ hp n3, rfl, _, rfl, p, dx, ww, o, r, _, _, _, rfl, k1 _ _ _ _ _ _ hp n3, ?_⟩
    refine ⟨_, rfl, ?_⟩
    have R := S.addR (H' := upd (upd (upd (upd H d (.own x)) x (.ins CR d [])) x (.ins CR d (rf true 0 0 0))) r (.lst (as.map V.ref ++ [.ref x]))) hx (k1 _ _ _ _) upd_same ⟨d, by rw [upd_ne nrx.symm, upd_same]⟩
    have := q _ _ x R.1 R.2
    rw [List.length_map, S.len]
    exact this

theorem scTk : FnScope ["self", "count", "region", "first", "page"] ["self", "count", "region"] (defScope sTake) := ⟨rfl, rfl, rfl, by decide +kernel, rfl, by decide +kernel, by decide +kernel⟩
theorem ok_take {f : Addr} {fd : FuncData} (F : Fun K "take" "Store.take" sTake f fd) (T : Txt K mg CS CR) : FnOk P w K mg base CX0 1 f fd ["self", "count", "region"] (spTake CS CR) := by
  refine F.ok scTk (fun vs H Q E h => ?_) (fun cdv A outer s H vs Q E hr h => ?_)
  · obtain ⟨p, F, m, w, o, r, as, n, i, rfl, _⟩ := h
    rfl
  · obtain ⟨p, F, m, ww, o, r, as, n, i, rfl, S, hn, hn5, hl, hlw, q⟩ := h
    obtain ⟨tk, hpw⟩ := T.pw
    refine ⟨_, pss_cons (ps_set (i := 3) scTk.nd rfl (Or.inl rfl) (pe_callB call_len_seq (by rfl) T.bLen PySem.boot_len (pa_cons (pe_fld (pv 0) rfl) pa_nil)))
      (pss_cons (ps_for PassesOwn.never rfl (pi_range3 rfl T.bRange (pa_cons (pe_op op_sub (pe_callB call_len_seq (by rfl) T.bLen PySem.boot_len (pa_cons (pe_fld (pv 0) rfl) pa_nil)) (pv 1)) (pa_cons (pe_un un_neg pe_int) (pa_cons (pe_un un_neg pe_int) pa_nil)))) (pg_name (i := 4) scTk.nd rfl (Or.inl rfl))
        (pss_one (ps_if (pt_cmpR (op_eqD hr.units) (pe_slice sl_list (pe_fld (pv 0) rfl) (po_some (pv 4)) (po_some (pe_op op_add (pv 4) (pv 1)))) (pe_op op_rep (pe_lst (pa_cons (pe_un un_neg pe_int) pa_nil)) (pv 1)) (nomark _))
          (pss_one (ps_set (i := 3) scTk.nd rfl (Or.inl rfl) (pv 4))) pss_nil)))
      (pss_cons (ps_if (pt_cmpR op_eq (pv 3) (pe_callB call_len_seq (by rfl) T.bLen PySem.boot_len (pa_cons (pe_fld (pv 0) rfl) pa_nil)) (nomark _))
        (pss_cons (ps_expr (pe_bm PySem.F.plainAttrs_list PySem.F.slot_list_extend PySem.F.type_list_extend mt_extend (pe_fld (pv 0) rfl) (pa_cons (pe_op op_rep (pe_lst (pa_cons (pe_un un_neg pe_int) pa_nil)) (pv 1)) pa_nil)))
        (pss_one (ps_expr (pe_bm PySem.F.plainAttrs_list PySem.F.slot_list_extend PySem.F.type_list_extend mt_extend (pe_fld (pv 0) rfl) (pa_cons (pe_op op_rep (pe_lst (pa_cons pe_int pa_nil)) (pe_op op_mul (pv 1) (pe_glob rfl hpw (v := .int 8) ⟨_, rfl⟩))) pa_nil))))) pss_nil)
      (pss_cons (ps_for PassesOwn.never rfl (pi_range2 rfl T.bRange (pa_cons (pv 3) (pa_cons (pe_op op_add (pv 3) (pv 1)) pa_nil))) (pg_name (i := 4) scTk.nd rfl (Or.inl rfl))
        (pss_one (ps_asg (pv 2) (pg_sub (pe_fld (pv 0) rfl) (pv 4) set_list))))
      (pss_one (ps_ret (pv 3)))))), ?_⟩
    obtain ⟨dx, hp⟩ := S.ob
    obtain ⟨n1, n2, n3, n4, n5, n6, na, nd⟩ := S.ne
    refine ⟨_, rfl, p, CS, dx, _, _, rfl, hp, T.clS, T.nO, sf_owners _ _ _, o, _, rfl, .inl (SqL.of S.ho), ?_⟩
    refine ⟨_, rfl, p, CS, dx, _, _, rfl, hp, T.clS, T.nO, sf_owners _ _ _, o, _, rfl, .inl (SqL.of S.ho), _, rfl, _, _, rfl, rfl, _, rfl, _, rfl, _, _, _, _, rfl, RgC.neg (by rw [ivs_len]; omega) (by rw [ivs_len]; omega) (by decide) (by decide), ?_⟩
    rw [ivs_len]
    have eN : ((m.owners.length : Int) - (n : Int) - -1).toNat = m.owners.length + 1 - n := by omega
    have hsz : ∀ k : Nat, k ≤ 20000 → k ≤ sizeLine := fun k h => Nat.le_trans h (by decide)
    have eM : ∀ k : Nat, ([V.int (-1)] : List V).length * (k : Int).toNat = k := fun k => by simp
    refine for_rangeC (fun k σ H' => ∃ v, σ = [some (.ref p), some (.int n), some (.int i), some (.int (least (isFree m.owners n) (m.owners.length + 1 - n - k) (m.owners.length - (m.owners.length + 1 - n - k)) : Nat)), v] ∧ Same H H') ⟨none, ?_, fun _ _ e => e⟩ ?_ ?_
    · rw [least_none _ _ (fun j h1 h2 => isFree_short (by omega) hn)]
      have e : m.owners.length + 1 - n - 0 + (m.owners.length - (m.owners.length + 1 - n - 0)) = m.owners.length := by omega
      rw [e]
      rfl
    · rintro k σ H1 hk ⟨v, rfl, s1⟩
      rw [eN] at hk
      have S1 := S.same s1
      obtain ⟨dx1, hp1⟩ := S1.ob
      have epg : (m.owners.length : Int) - (n : Int) + (k : Nat) * (-1) = ((m.owners.length + 1 - n - (k + 1) : Nat) : Int) := by omega
      rw [epg]
      generalize hpg : m.owners.length + 1 - n - (k + 1) = pg at *
      have hst : m.owners.length + 1 - n - k = pg + 1 := by omega
      have hpl : pg + n ≤ m.owners.length := by omega
      rw [hst]
      refine ⟨_, rfl, p, CS, dx1, _, _, rfl, hp1, T.clS, T.nO, sf_owners _ _ _, _, rfl, _, rfl, _, rfl, _, rfl, _, _, rfl, rfl, _, rfl, o, _, rfl, SqL.of S1.ho, fun q1 hq1 => ?_⟩
      rw [cut_ivs _ _ _ (by omega)]
      refine ⟨_, rfl, by decide, fun q2 hq2 => ?_⟩
      refine ⟨_, rfl, q2, _, _, rfl, rfl, upd_same, (by omega), (by omega), (by rw [eM]; exact hsz _ (by omega)), fun q3 hq3 => ?_⟩
      have n12 : q1 ≠ q2 := ne_of_none upd_same hq2
      have n13 : q1 ≠ q3 := ne_of_none (by rw [upd_ne n12]; exact upd_same) hq3
      refine ⟨_, _, .lst (SqL.of (by rw [upd_ne n13, upd_ne n12]; exact upd_same)) (dps_ivs _), .lst (SqL.of (Eq.trans upd_same (by rw [Int.toNat_natCast, rep_ivs]))) (dps_ivs _), PySem.W.ke_shaped_ints _, PySem.W.ke_shaped_ints _, _, rfl, ?_⟩
      rw [eqv_ivs]
      have hs2 : Same H (upd (upd (upd H1 q1 (.lst (ivs ((m.owners.drop pg).take n)))) q2 (.lst [.int (-1)])) q3 (.lst (List.replicate (n : Int).toNat [V.int (-1)]).flatten)) := ((s1.trans (same_new hq1)).trans (same_new hq2)).trans (same_new hq3)
      have e3 : m.owners.length - pg = m.owners.length - (pg + 1) + 1 := by omega
      refine ite2 (fun hc => ?_) (fun hc => ?_)
      · refine ⟨_, rfl, some (.int (pg : Int)), ?_, hs2⟩
        rw [e3, least_now (show isFree m.owners n pg = true from hc)]
        rfl
      · refine ⟨some (.int (pg : Int)), ?_, hs2⟩
        rw [e3, least_skip (by unfold isFree; exact eq_false_of_ne_true hc)]
        rfl
    · rintro σ H1 ⟨v, rfl, s1⟩
      rw [eN]
      have e0 : m.owners.length + 1 - n - (m.owners.length + 1 - n) = 0 := by omega
      rw [e0, Nat.sub_zero]
      have eF : least (isFree m.owners n) 0 m.owners.length = firstFree m.owners n := rfl
      rw [eF]
      have S1 := S.same s1
      obtain ⟨dx1, hp1⟩ := S1.ob
      have hf := firstFree_le m.owners n
      refine ⟨_, rfl, _, rfl, p, CS, dx1, _, _, rfl, hp1, T.clS, T.nO, sf_owners _ _ _, o, _, rfl, .inl (SqL.of S1.ho), rfl, _, rfl, ?_⟩
      rw [ivs_len]
      -- behind the if: the pages stand ready
      have go : ∀ H2, StoreAt CS CR H2 F p { m with words := preW m n, owners := preO m n } ww o r as → Ch F F H H2 → tSeq (tFor (iRng2 (tCons (tVar 3) (tCons (tOp rAdd (tVar 3) (tVar 1)) tNil))) (gName 4) (tAsg (tVar 2) (gSub (tFld K (tVar 0) "owners") (tVar 4) rSetL))) (tRet (tVar 3)) { nx := fun _ H' => Q .non H', rt := Q } [some (.ref p), some (.int n), some (.int i), some (.int (firstFree m.owners n : Nat)), v] H2 := by
        intro H2 S2 c2
        have hfit := preO_fits (m := m) hn
        have hpl := preO_len (m := m) hn
        refine ⟨_, rfl, _, rfl, _, rfl, _, _, rfl, rfl, _, _, rfl, ⟨by omega, by omega, by omega, by omega⟩, ?_⟩
        have eK : ((firstFree m.owners n : Int) + (n : Int) - (firstFree m.owners n : Int)).toNat = n := by omega
        refine for_range (fun k σ H' => ∃ v, σ = [some (.ref p), some (.int n), some (.int i), some (.int (firstFree m.owners n : Nat)), v] ∧ StoreAt CS CR H' F p { m with words := preW m n, owners := fill (preO m n) (firstFree m.owners n) k i } ww o r as ∧ Ch F F H H') ⟨v, rfl, ?_, c2⟩ ?_ ?_
        · rw [fill_zero]
          exact S2
        · rintro k σ H3 hk ⟨v3, rfl, S3, c3⟩
          rw [eK] at hk
          obtain ⟨dx3, hp3⟩ := S3.ob
          refine ⟨_, rfl, _, rfl, p, CS, dx3, _, _, rfl, hp3, T.clS, T.nO, sf_owners _ _ _, _, rfl, o, _, _, firstFree m.owners n + k, rfl, rfl, S3.ho, ?_, ?_⟩
          · rw [ivs_len]
            have := ixn_nat (n := (fill (preO m n) (firstFree m.owners n) k i).length) (i := firstFree m.owners n + k) (by rw [fill_length (by omega)]; omega)
            rw [← this]
            rfl
          · refine ⟨_, rfl, ?_, c3.trans (Ch.upd S3.fo)⟩
            have S4 := S3.setO (fill (preO m n) (firstFree m.owners n) (k + 1) i)
            rw [ivs_set, fill_succ (by omega)]
            exact S4
        · rintro σ H3 ⟨v3, rfl, S3, c3⟩
          rw [eK] at S3
          exact ⟨_, rfl, q _ S3 c3⟩
      refine ite2 (fun hc => ?_) (fun hc => ?_)
      · have hc : firstFree m.owners n = m.owners.length := by
          have : V.int (firstFree m.owners n : Nat) = V.int (m.owners.length : Nat) := of_decide_eq_true hc
          have := V.int.inj this
          omega
        obtain ⟨g1, g2, g3, g4, g5, g6, ga, gd⟩ := S1.ne
        refine ⟨_, rfl, p, CS, dx1, _, _, rfl, hp1, T.clS, T.nO, sf_owners _ _ _, .inl ⟨rfl, _, SqL.of S1.ho⟩, ?_⟩
        refine ⟨_, rfl, by decide, fun q2 hq2 => ?_⟩
        refine ⟨_, rfl, q2, _, _, rfl, rfl, upd_same, (by omega), (by omega), (by rw [eM]; exact hsz _ (by omega)), fun q3 hq3 => ?_⟩
        have s2 : Same H1 (upd (upd H1 q2 (.lst [.int (-1)])) q3 (.lst (List.replicate (n : Int).toNat [V.int (-1)]).flatten)) := (same_new hq2).trans (same_new hq3)
        have S2 := S1.same s2
        refine ⟨o, q3, _, ivs (List.replicate n (-1)), rfl, rfl, S2.ho, Eq.trans upd_same (by rw [Int.toNat_natCast, rep_ivs]), (by rw [ivs_len, ivs_len, List.length_replicate]; exact hsz _ (by omega)), ?_⟩
        have S3 := S2.setO (m.owners ++ List.replicate n (-1))
        rw [ivs_app] at S3
        have c3 : Ch F F H1 _ := (Ch.same (F := F) s2).trans (Ch.upd (o := .lst (ivs m.owners ++ ivs (List.replicate n (-1)))) S2.fo)
        obtain ⟨dx3, hp3⟩ := S3.ob
        refine ⟨_, rfl, p, CS, dx3, _, _, rfl, hp3, T.clS, T.nW, sf_words _ _ _, .inl ⟨rfl, _, SqL.of S3.hw⟩, ?_⟩
        refine ⟨by decide, fun q4 hq4 => ?_⟩
        have S4 := S3.same (same_new (o := .lst [.int 0]) hq4)
        have e8 : ((n : Int) * 8) = ((8 * n : Nat) : Int) := by omega
        refine ⟨_, rfl, _, _, rfl, rfl, .inl ⟨by omega, by omega⟩, q4, _, [V.int 0], rfl, rfl, upd_same, (by omega), (by omega), (by rw [e8, Int.toNat_natCast]; show 1 * (8 * n) ≤ sizeLine; exact hsz _ (by omega)), fun q5 hq5 => ?_⟩
        have S5 := S4.same (same_new (o := .lst (List.replicate ((n : Int) * 8).toNat [V.int 0]).flatten) hq5)
        refine ⟨ww, q5, _, ivs (List.replicate (8 * n) 0), rfl, rfl, S5.hw, Eq.trans upd_same (by rw [e8, Int.toNat_natCast, rep_ivs]), (by rw [ivs_len, ivs_len, List.length_replicate]; exact hsz _ (show m.words.length + 8 * n ≤ 20000 by omega)), ?_⟩
        have S6 := S5.setW (m.words ++ List.replicate (8 * n) 0)
        rw [ivs_app] at S6
        have c6 : Ch F F H _ := ((Ch.same s1).trans c3).trans ((Ch.same ((same_new (o := .lst [.int 0]) hq4).trans (same_new (o := .lst (List.replicate ((n : Int) * 8).toNat [V.int 0]).flatten) hq5))).trans (Ch.upd (o := .lst (ivs m.words ++ ivs (List.replicate (8 * n) 0))) S5.fw))
        refine go _ ?_ c6
        unfold preW preO
        rw [if_pos hc, if_pos hc]
        exact S6
      · have hc : firstFree m.owners n ≠ m.owners.length := fun e => by
          rw [e] at hc
          exact hc (decide_eq_true rfl)
        refine go _ ?_ (Ch.same s1)
        unfold preW preO
        rw [if_neg hc, if_neg hc]
        exact S1
end
end Esc

/-! The readers of the store, write. -/
namespace Esc
open PySem L2
theorem ivs_nth {l : List Int} {i : Nat} {z : Int} (h : l[i]? = some z) {x : Int} (e : x = (i : Int)) : atI (ivs l) x = some (V.int z) := at_of (j := i) e (ivs_get h)
section
variable {P : Program} {w : World} {K : PySem.W.Frag} {mg : Str → Option Value} {base : Heap} {CS CR : Addr}
theorem scOw : FnScope ["self", "address"] ["self", "address"] (defScope sOwner) := ⟨rfl, rfl, rfl, by decide +kernel, rfl, by decide +kernel, by decide +kernel⟩
theorem ok_owner {f : Addr} {fd : FuncData} (F : Fun K "owner" "Store.owner" sOwner f fd) (T : Txt K mg CS CR) : FnOk P w K mg base CX0 1 f fd ["self", "address"] (spOwner CS CR) := by
  refine F.ok scOw (fun vs H Q E h => ?_) (fun cdv A outer s H vs Q E hr h => ?_)
  · obtain ⟨p, F, m, w, o, r, as, a, rfl, _⟩ := h
    rfl
  · obtain ⟨p, F, m, ww, o, r, as, a, rfl, S, wf, hl, q⟩ := h
    obtain ⟨tk, hpw⟩ := T.pw
    refine ⟨_, pss_cons (ps_if (pt_chain op_le op_lt pe_int (pv 1) (pe_callB call_len_seq (by rfl) T.bLen PySem.boot_len (pa_cons (pe_fld (pv 0) rfl) pa_nil)))
      (pss_one (ps_ret (pe_ix ix_list (pe_fld (pv 0) rfl) (pe_op op_fdiv (pv 1) (pe_glob rfl hpw (v := .int 8) ⟨_, rfl⟩)) (fun _ _ => rfl)))) pss_nil) (pss_one (ps_ret (pe_un un_neg pe_int))), ?_⟩
    obtain ⟨dx, hp⟩ := S.ob
    refine ⟨_, rfl, _, _, rfl, rfl, _, rfl, ?_⟩
    have out : ¬ (0 ≤ a ∧ a < m.words.length) → ∃ i : Int, V.int 1 = .int i ∧ Q (.int (-i)) H := fun h => ⟨1, rfl, by rw [owner_out h] at q; exact q⟩
    refine ite2 (fun h0 => ?_) (fun h0 => ?_)
    · refine ⟨_, rfl, p, CS, dx, _, _, rfl, hp, T.clS, T.nW, sf_words _ _ _, ww, _, rfl, .inl (SqL.of S.hw), _, _, rfl, rfl, _, rfl, ?_⟩
      rw [ivs_len]
      refine ite2 (fun h1 => ?_) (fun h1 => ?_)
      · have h0 := of_decide_eq_true h0
        have h1 := of_decide_eq_true h1
        obtain ⟨z, e1, e2⟩ := owner_in wf h0 h1
        rw [e2] at q
        exact ⟨_, rfl, p, CS, dx, _, _, rfl, hp, T.clS, T.nO, sf_owners _ _ _, _, rfl, _, _, rfl, rfl, ⟨by decide, by decide⟩, o, _, _, _, rfl, rfl, SqL.of S.ho, ivs_nth e1 (by omega), q⟩
      · exact out fun z => h1 (decide_eq_true z.2)
    · exact ⟨false, rfl, out fun z => h0 (decide_eq_true z.1)⟩

theorem scRd : FnScope ["self", "address", "owner"] ["self", "address"] (defScope sRead) := ⟨rfl, rfl, rfl, by decide +kernel, rfl, by decide +kernel, by decide +kernel⟩
theorem ok_read {f : Addr} {fd : FuncData} (F : Fun K "read" "Store.read" sRead f fd) (T : Txt K mg CS CR) (mO : C8.Met P w K mg base 1 CS "owner" (spOwner CS CR) []) (mR : C8.Met P w K mg base 1 CS "record" (spRecord CS) []) : FnOk P w K mg base CX0 2 f fd ["self", "address"] (spRead CS CR) := by
  refine F.ok scRd (fun vs H Q E h => ?_) (fun cdv A outer s H vs Q E hr h => ?_)
  · obtain ⟨p, F, m, w, o, r, as, a, rfl, _⟩ := h
    rfl
  · obtain ⟨p, F, m, ww, o, r, as, a, rfl, S, wf, hl, q⟩ := h
    refine ⟨_, pss_cons (ps_set (i := 2) scRd.nd rfl (Or.inl rfl) (C8.pe_mt mO hr (by decide) (pv 0) (pa_cons (pv 1) pa_nil)))
      (pss_cons (ps_expr (C8.pe_mt mR hr (by decide) (pv 0) (pa_cons pe_str (pa_cons (pv 2) (pa_cons (pv 1) pa_nil)))))
      (pss_cons (ps_if (pt_cmpR op_lt (pv 2) pe_int (nomark _)) (pss_one (ps_ret pe_int)) pss_nil) (pss_one (ps_ret (pe_ix ix_list (pe_fld (pv 0) rfl) (pv 1) (fun _ _ => rfl)))))), ?_⟩
    obtain ⟨dx, hp⟩ := S.ob
    refine ⟨_, rfl, p, dx, _, rfl, hp, rfl, _, rfl, p, F, m, ww, o, r, as, a, rfl, S, wf, hl, ?_⟩
    refine ⟨_, rfl, p, dx, _, rfl, hp, rfl, _, rfl, _, rfl, p, dx, ww, o, r, _, _, _, rfl, hp, ?_⟩
    refine ⟨_, rfl, _, _, rfl, rfl, _, rfl, ?_⟩
    refine ite2 (fun h0 => ?_) (fun h0 => ?_)
    · have h0 := of_decide_eq_true h0
      have e : readM m a = 0 := by
        unfold readM
        rw [if_pos h0]
      rw [e] at q
      exact q
    · have h0 : ¬ ownerM m a < 0 := fun z => h0 (decide_eq_true z)
      obtain ⟨e1, e2⟩ := read_in wf h0
      exact ⟨_, rfl, p, CS, dx, _, _, rfl, hp, T.clS, T.nW, sf_words _ _ _, _, rfl, ww, _, _, _, rfl, rfl, SqL.of S.hw, ivs_nth e1 (by omega), q⟩

theorem scWr : FnScope ["self", "address", "word", "owner"] ["self", "address", "word"] (defScope sWrite) := ⟨rfl, rfl, rfl, by decide +kernel, rfl, by decide +kernel, by decide +kernel⟩
theorem ok_write {f : Addr} {fd : FuncData} (F : Fun K "write" "Store.write" sWrite f fd) (T : Txt K mg CS CR) (mO : C8.Met P w K mg base 1 CS "owner" (spOwner CS CR) []) (mR : C8.Met P w K mg base 1 CS "record" (spRecord CS) []) : FnOk P w K mg base CX0 2 f fd ["self", "address", "word"] (spWrite CS CR) := by
  refine F.ok scWr (fun vs H Q E h => ?_) (fun cdv A outer s H vs Q E hr h => ?_)
  · obtain ⟨p, F, m, w, o, r, as, a, v, rfl, _⟩ := h
    rfl
  · obtain ⟨p, F, m, ww, o, r, as, a, v, rfl, S, wf, hl, q⟩ := h
    refine ⟨_, pss_cons (ps_set (i := 3) scWr.nd rfl (Or.inl rfl) (C8.pe_mt mO hr (by decide) (pv 0) (pa_cons (pv 1) pa_nil)))
      (pss_cons (ps_expr (C8.pe_mt mR hr (by decide) (pv 0) (pa_cons pe_str (pa_cons (pv 3) (pa_cons (pv 1) pa_nil)))))
      (pss_one (ps_if (pt_cmpR op_ge (pv 3) pe_int (nomark _)) (pss_one (ps_asg (pv 2) (pg_sub (pe_fld (pv 0) rfl) (pv 1) set_list))) pss_nil))), ?_⟩
    obtain ⟨dx, hp⟩ := S.ob
    refine ⟨_, rfl, p, dx, _, rfl, hp, rfl, _, rfl, p, F, m, ww, o, r, as, a, rfl, S, wf, hl, ?_⟩
    refine ⟨_, rfl, p, dx, _, rfl, hp, rfl, _, rfl, _, rfl, p, dx, ww, o, r, _, _, _, rfl, hp, ?_⟩
    refine ⟨_, rfl, _, _, rfl, rfl, _, rfl, ?_⟩
    unfold writeM at q
    refine ite2 (fun h0 => ?_) (fun h0 => ?_)
    · have h0 : 0 ≤ ownerM m a := of_decide_eq_true h0
      rw [if_pos h0] at q
      obtain ⟨a0, a1, _⟩ := owner_has wf h0
      refine ⟨_, rfl, _, rfl, p, CS, dx, _, _, rfl, hp, T.clS, T.nW, sf_words _ _ _, _, rfl, ww, _, _, a.toNat, rfl, rfl, S.hw, ?_, ?_⟩
      · rw [ivs_len]
        unfold ixN
        rw [if_pos a0, if_pos a1]
      · rw [ivs_set]
        exact q _ (S.setW _) (Ch.upd S.fw)
    · have h0 : ¬ 0 ≤ ownerM m a := fun z => h0 (decide_eq_true z)
      rw [if_neg h0] at q
      exact q _ S (Ch.refl _ _)

theorem scPg : FnScope ["self"] ["self"] (defScope sPages) := ⟨rfl, rfl, rfl, by decide +kernel, rfl, by decide +kernel, by decide +kernel⟩
theorem ok_pages {f : Addr} {fd : FuncData} (F : Fun K "pages" "Store.pages" sPages f fd) (T : Txt K mg CS CR) : FnOk P w K mg base CX0 1 f fd ["self"] (spPages CS CR) := by
  refine F.ok scPg (fun vs H Q E h => ?_) (fun cdv A outer s H vs Q E hr h => ?_)
  · obtain ⟨p, F, m, w, o, r, as, rfl, _⟩ := h
    rfl
  · obtain ⟨p, F, m, ww, o, r, as, rfl, S, q⟩ := h
    refine ⟨_, pss_one (ps_ret (pe_op op_sub (pe_callB call_len_seq (by rfl) T.bLen PySem.boot_len (pa_cons (pe_fld (pv 0) rfl) pa_nil))
      (pe_bm PySem.F.plainAttrs_list PySem.F.slot_list_count PySem.F.type_list_count mt_lcount (pe_fld (pv 0) rfl) (pa_cons (pe_un un_neg pe_int) pa_nil)))), ?_⟩
    obtain ⟨dx, hp⟩ := S.ob
    refine ⟨_, rfl, p, CS, dx, _, _, rfl, hp, T.clS, T.nO, sf_owners _ _ _, o, _, rfl, .inl (SqL.of S.ho), ?_⟩
    refine ⟨_, rfl, p, CS, dx, _, _, rfl, hp, T.clS, T.nO, sf_owners _ _ _, .inl ⟨rfl, _, SqL.of S.ho⟩, _, rfl, o, m.owners, _, rfl, rfl, SqL.of S.ho, _, _, rfl, rfl, ?_⟩
    rw [ivs_len]
    exact q
theorem scWt : FnScope ["self"] ["self"] (defScope sWaiting) := ⟨rfl, rfl, rfl, by decide +kernel, rfl, by decide +kernel, by decide +kernel⟩
theorem ok_waiting {f : Addr} {fd : FuncData} (F : Fun K "waiting" "Store.waiting" sWaiting f fd) (T : Txt K mg CS CR) : FnOk P w K mg base CX0 1 f fd ["self"] (spWaiting CS CR) := by
  refine F.ok scWt (fun vs H Q E h => ?_) (fun cdv A outer s H vs Q E hr h => ?_)
  · obtain ⟨p, F, m, w, o, r, as, rfl, _⟩ := h
    rfl
  · obtain ⟨p, F, m, ww, o, r, as, rfl, S, q⟩ := h
    refine ⟨_, pss_one (ps_ret (pe_bm PySem.F.plainAttrs_list PySem.F.slot_list_count PySem.F.type_list_count mt_lcount (pe_fld (pv 0) rfl) (pa_cons (pe_un un_neg pe_int) pa_nil))), ?_⟩
    obtain ⟨dx, hp⟩ := S.ob
    exact ⟨_, rfl, p, CS, dx, _, _, rfl, hp, T.clS, T.nO, sf_owners _ _ _, .inl ⟨rfl, _, SqL.of S.ho⟩, _, rfl, o, m.owners, _, rfl, rfl, SqL.of S.ho, q⟩
theorem scLn : FnScope ["self"] ["self"] (defScope sLen) := ⟨rfl, rfl, rfl, by decide +kernel, rfl, by decide +kernel, by decide +kernel⟩
theorem ok_len {f : Addr} {fd : FuncData} (F : Fun K "__len__" "Store.__len__" sLen f fd) (T : Txt K mg CS CR) : FnOk P w K mg base CX0 1 f fd ["self"] (spLen CS CR) := by
  refine F.ok scLn (fun vs H Q E h => ?_) (fun cdv A outer s H vs Q E hr h => ?_)
  · obtain ⟨p, F, m, w, o, r, as, rfl, _⟩ := h
    rfl
  · obtain ⟨p, F, m, ww, o, r, as, rfl, S, q⟩ := h
    refine ⟨_, pss_one (ps_ret (pe_callB call_len_seq (by rfl) T.bLen PySem.boot_len (pa_cons (pe_fld (pv 0) rfl) pa_nil))), ?_⟩
    obtain ⟨dx, hp⟩ := S.ob
    refine ⟨_, rfl, p, CS, dx, _, _, rfl, hp, T.clS, T.nW, sf_words _ _ _, ww, _, rfl, .inl (SqL.of S.hw), ?_⟩
    rw [ivs_len]
    exact q
theorem scIt : FnScope ["self"] ["self"] (defScope sIter) := ⟨rfl, rfl, rfl, by decide +kernel, rfl, by decide +kernel, by decide +kernel⟩
theorem ok_iter {f : Addr} {fd : FuncData} (F : Fun K "__iter__" "Store.__iter__" sIter f fd) (T : Txt K mg CS CR) : FnOk P w K mg base CX0 1 f fd ["self"] (spIter CS CR) := by
  refine F.ok scIt (fun vs H Q E h => ?_) (fun cdv A outer s H vs Q E hr h => ?_)
  · obtain ⟨p, F, m, w, o, r, as, rfl, _⟩ := h
    rfl
  · obtain ⟨p, F, m, ww, o, r, as, rfl, S, q⟩ := h
    refine ⟨_, pss_one (ps_ret (pe_callB call_iterL (by rfl) T.bIter (by decide +kernel) (pa_cons (pe_fld (pv 0) rfl) pa_nil))), ?_⟩
    obtain ⟨dx, hp⟩ := S.ob
    exact ⟨_, rfl, p, CS, dx, _, _, rfl, hp, T.clS, T.nW, sf_words _ _ _, ww, _, rfl, SqL.of S.hw, q⟩
theorem scCo : FnScope ["self", "address"] ["self", "address"] (defScope sContains) := ⟨rfl, rfl, rfl, by decide +kernel, rfl, by decide +kernel, by decide +kernel⟩
theorem ok_contains {f : Addr} {fd : FuncData} (F : Fun K "__contains__" "Store.__contains__" sContains f fd) (T : Txt K mg CS CR) : FnOk P w K mg base CX0 1 f fd ["self", "address"] (spContains CS CR) := by
  refine F.ok scCo (fun vs H Q E h => ?_) (fun cdv A outer s H vs Q E hr h => ?_)
  · obtain ⟨p, F, m, w, o, r, as, a, rfl, _⟩ := h
    rfl
  · obtain ⟨p, F, m, ww, o, r, as, a, rfl, S, q⟩ := h
    refine ⟨_, pss_one (ps_ret (pe_chain op_le op_lt pe_int (pv 1) (pe_callB call_len_seq (by rfl) T.bLen PySem.boot_len (pa_cons (pe_fld (pv 0) rfl) pa_nil)))), ?_⟩
    obtain ⟨dx, hp⟩ := S.ob
    refine ⟨_, rfl, _, _, rfl, rfl, _, rfl, ?_⟩
    refine ite2 (fun h0 => ?_) (fun h0 => ?_)
    · refine ⟨_, rfl, p, CS, dx, _, _, rfl, hp, T.clS, T.nW, sf_words _ _ _, ww, _, rfl, .inl (SqL.of S.hw), _, _, rfl, rfl, ?_⟩
      rw [ivs_len]
      have e : decide (0 ≤ a ∧ a < (m.words.length : Int)) = decide (a < (m.words.length : Int)) := by
        have := of_decide_eq_true h0
        simp [this]
      rw [e] at q
      exact q
    · have h0 : ¬ 0 ≤ a := fun z => h0 (decide_eq_true z)
      rw [decide_eq_false (fun z : 0 ≤ a ∧ a < (m.words.length : Int) => h0 z.1)] at q
      exact q
theorem scHe : FnScope ["self", "state"] ["self"] (defScope sHeld) := ⟨rfl, rfl, rfl, by decide +kernel, rfl, by decide +kernel, by decide +kernel⟩
theorem take_map_succ {α β : Type} {l : List α} {i : Nat} {x : α} (h : l[i]? = some x) (f : α → β) : (l.take (i + 1)).map f = (l.take i).map f ++ [f x] := by
  rw [List.take_add_one, h, List.map_append]
  rfl
theorem ok_held {f : Addr} {fd : FuncData} (F : Fun K "held" "Store.held" sHeld f fd) (T : Txt K mg CS CR) : FnOk P w K mg base CX0 1 f fd ["self"] (spHeld CS CR) := by
  refine F.ok scHe (fun vs H Q E h => ?_) (fun cdv A outer s H vs Q E hr h => ?_)
  · obtain ⟨p, F, m, w, o, r, as, rfl, _⟩ := h
    rfl
  · obtain ⟨p, F, m, ww, o, r, as, rfl, S, hl, q⟩ := h
    refine ⟨_, pss_one (ps_ret (pe_callB (cr_sum rfl) (by rfl) T.bSum (by decide +kernel) (pa_cons (pe_lc (own := [("state", 1)]) (g := gName 1) (tt := tYes) (te := tFld K (tVar 1) "amount") rfl scHe.nd (pi_list (pe_fld (pv 0) rfl)) (blkOk_by (N := ["self", "state"]) (sc := defScope sHeld) (by decide +kernel)) (fun _ _ _ _ _ => pg_name (i := 1) scHe.nd rfl (Or.inl rfl)) (fun _ _ _ _ _ => pts_nil) (fun _ _ _ _ _ => pe_fld (pv 1) rfl)) pa_nil))), ?_⟩
    obtain ⟨dx, hp⟩ := S.ob
    refine ⟨_, rfl, p, CS, dx, _, _, rfl, hp, T.clS, T.nR, sf_regions _ _ _, r, rfl, ⟨_, SqL.of S.hr⟩, fun D hD => ?_⟩
    have nrD : r ≠ D := ne_of_none S.hr hD
    refine lc_list (K := K) (a := r) (xs := as.map V.ref) (fun i H' => Same H H' ∧ H' D = some (.lst (((norm m).regs.take i).map fun z => V.int z.amt))) ⟨same_new hD, upd_same⟩ (fun i H' _ ⟨s1, _⟩ => SqL.of (s1 _ _ S.hr)) ?_ ?_
    · rintro i x H1 hx ⟨s1, h1⟩
      rw [List.getElem?_map] at hx
      cases e : as[i]? with
      | none =>
        rw [e] at hx
        cases hx
      | some a =>
        rw [e] at hx
        have e2 : V.ref a = x := Option.some.inj hx
        subst e2
        obtain ⟨z, ez, da, ha⟩ := S.at_ i a e
        refine ⟨rfl, _, rfl, a, CR, da, _, _, rfl, s1 _ _ ha, T.clR, T.nA, rf_amount _ _ _ _, _, h1, ?_, fun b u eb => ?_, ?_⟩
        · rw [List.length_map, List.length_take]
          have : (norm m).regs.length < 1000 := by
            show (m.regs.map nz).length < 1000
            rw [List.length_map]
            exact hl
          exact Nat.lt_of_le_of_lt (Nat.min_le_right _ _) (Nat.lt_trans this (by decide))
        · rw [upd_ne (ne_of_none eb hD)]
          exact s1 b u eb
        · rw [upd_same, take_map_succ ez]
    · rintro H1 ⟨s1, h1⟩
      rw [List.length_map, S.len, List.take_length] at h1
      refine ⟨D, (norm m).regs.map (·.amt), rfl, SqL.of (Eq.trans h1 (by rw [List.map_map]; rfl)), ?_⟩
      have e : ((norm m).regs.map (·.amt)).sum = heldM m := by
        show ((m.regs.map nz).map (·.amt)).sum = _
        rw [List.map_map]
        rfl
      rw [e]
      exact q H1 s1
end
end Esc

/-! cell. -/
namespace Esc
open PySem L2
/-- a def by its body, that may raise; what it raises has no context -/
theorem okN {P : Program} {w : World} {K : PySem.W.Frag} {mg : Str → Option Value} {base : Heap} {x qual : Str} {st : Stmt} {f : Addr} {fd : FuncData} {N ps : List Str} {k : Nat} {sp : Sp} (F : Fun K x qual st f fd) (S : FnScope N ps (defScope st)) (len : ∀ vs H Q E, sp vs H Q E → vs.length = ps.length)
    (hbody : ∀ (cdv : Value) (A : Around) (outer : List Env) (s : Shared) (H : Hp) (vs : List V) (Q : VK) (E : XK), Room k (A.deeper (PyProof.Rows.envOfC qual (defScope st) s.heap.objs.size f cdv)) → sp vs H Q E →
      ∃ t, PSs (cxOf (L2N.CX P w) P w K mg base N qual (defScope st) f cdv A outer s H E) (defBody st) t ∧ t { nx := fun _ H' => Q .non H', rt := Q } (start N vs) H) : FnOk P w K mg base (L2N.CX P w) (k + 1) f fd ps sp := by
  obtain ⟨oc, od, kV, doc, pm, an, cdv, ct, osl, rfl, lk, hcd⟩ := F.ex
  exact fn_of lk hcd S len fun A outer s H vs Q E hr hsp => hbody cdv A outer s H vs Q E hr hsp
def errR : Str := "region"
def errW : Str := "words"
def reasonD (x : Str) : HO := .xd [(("reason" : Str), .str x)]
theorem rf_lt {l : Bool} {a p r : Int} {n : Nat} (h : 4 < n) : (rf l a p r).length < n := h
def spCell (CS CR C : Addr) : Sp := fun vs H Q E => ∃ p F m w o r as, ∃ (i k : Int), vs = [.ref p, .int i, .int k] ∧ StoreAt CS CR H F p m w o r as ∧ Wf m ∧ m.owners.length ≤ 500 ∧ k ≤ 40 ∧
  (openM m i = false → ∀ d, H d = none → E (.ref C) (some d) (upd H d (reasonD errR))) ∧
  (openM m i = true → k < 1 → ∀ d, H d = none → E (.ref C) (some d) (upd H d (reasonD errW))) ∧
  (openM m i = true → ¬ k < 1 → ∀ z, m.regs[i.toNat]? = some z → ∀ H', StoreAt CS CR H' F p (cellM m i.toNat z k).2 w o r as → Ch F F H H' → Q (.int (cellM m i.toNat z k).1) H')
theorem open_reg {m : Mem} {i : Int} (h : openM m i = true) : 0 ≤ i ∧ i < m.regs.length ∧ ∃ z, m.regs[i.toNat]? = some z ∧ z.lives = true := by
  unfold openM at h
  rw [Bool.and_eq_true] at h
  obtain ⟨h1, h2⟩ := h
  have h1 := of_decide_eq_true h1
  refine ⟨h1.1, h1.2, ?_⟩
  cases e : m.regs[i.toNat]? with
  | none =>
    rw [e] at h2
    cases h2
  | some z =>
    rw [e] at h2
    exact ⟨z, rfl, h2⟩
theorem ivs_fill (l : List Int) (a c : Int) (k : Int) (h0 : 0 ≤ a) (hk : 0 ≤ k) (hc : c = a + k) : (ivs l).take a.toNat ++ ivs (List.replicate k.toNat 0) ++ (ivs l).drop c.toNat = ivs (fill l a.toNat k.toNat 0) := by
  have e : c.toNat = a.toNat + k.toNat := by omega
  rw [e]
  unfold fill ivs
  rw [List.map_append, List.map_append, List.map_take, List.map_drop]
section
variable {P : Program} {w : World} {K : PySem.W.Frag} {mg : Str → Option Value} {base : Heap} {CS CR C fI cc cda : Addr}
theorem scCe : FnScope ["self", "region", "words", "state", "count", "address"] ["self", "region", "words"] (defScope sCell) := ⟨rfl, rfl, rfl, by decide +kernel, rfl, by decide +kernel, by decide +kernel⟩
theorem ok_cell {f : Addr} {fd : FuncData} (F : Fun K "cell" "Store.cell" sCell f fd) (T : Txt K mg CS CR) (ST : EscR.SeTxt P K mg C fI cc cda) (mC : C8.Met P w K mg base 2 CS "is_current" (spIsCur CS CR) []) (mT : C8.Met P w K mg base 1 CS "take" (spTake CS CR) []) (mR : C8.Met P w K mg base 1 CS "record" (spRecord CS) []) :
    FnOk P w K mg base (L2N.CX P w) 3 f fd ["self", "region", "words"] (spCell CS CR C) := by
  refine okN F scCe (fun vs H Q E h => ?_) (fun cdv A outer s H vs Q E hr h => ?_)
  · obtain ⟨p, F, m, w, o, r, as, i, k, rfl, _⟩ := h
    rfl
  · obtain ⟨p, F, m, ww, o, r, as, i, k, rfl, S, wf, hl, h40, qR, qW, q⟩ := h
    obtain ⟨tk, hpw⟩ := T.pw
    obtain ⟨tt, htt, rd⟩ : ∃ t, PSs (cxOf (L2N.CX P w) P w K mg base ["self", "region", "words", "state", "count", "address"] "Store.cell" (defScope sCell) f cdv A outer s H E) ((defBody sCell).drop 4) t ∧
        ∀ (H2 : Hp) (m1 : Mem) (z1 : Reg) (ad : Int) (j : Nat) (a : Addr) (v4 : Option V), StoreAt CS CR H2 F p m1 ww o r as → m1.regs[j]? = some z1 → as[j]? = some a → 0 ≤ ad → 0 ≤ k → ad + k ≤ m1.words.length → m1.words.length ≤ 10000 → Ch F F H H2 →
          (∀ H', StoreAt CS CR H' F p { m1 with words := fill m1.words ad.toNat k.toNat 0, regs := m1.regs.set j { z1 with amt := z1.amt + k } } ww o r as → Ch F F H H' → Q (.int ad) H') →
          t { nx := fun _ H' => Q .non H', rt := Q } [some (.ref p), some (.int i), some (.int k), some (.ref a), v4, some (.int ad)] H2 := by
      refine ⟨_, pss_cons (ps_asg (pe_op op_rep (pe_lst (pa_cons pe_int pa_nil)) (pv 2)) (EscR.pg_slice (pe_fld (pv 0) rfl) (po_some (pv 5)) (po_some (pe_op op_add (pv 5) (pv 2)))))
        (pss_cons (ps_fldaug (pv 3) (pv 2) in_add) (pss_cons (ps_expr (C8.pe_mt mR hr (by decide) (pv 0) (pa_cons pe_str (pa_cons (pv 1) (pa_cons (pv 5) pa_nil))))) (pss_one (ps_ret (pv 5))))), ?_⟩
      intro H2 m1 z1 ad j a v4 S2 hz ha h0 hk hfit hsz c2 fin
      refine ⟨by decide, fun q1 hq1 => ?_⟩
      refine ⟨_, rfl, q1, _, [V.int 0], rfl, rfl, upd_same, (by omega), (by omega), ?_, fun q2 hq2 => ?_⟩
      · show 1 * k.toNat ≤ sizeLine
        exact Nat.le_trans (show 1 * k.toNat ≤ 40 by omega) (by decide)
      have s2 : Same H2 (upd (upd H2 q1 (.lst [V.int 0])) q2 (.lst (List.replicate k.toNat [V.int 0]).flatten)) := (same_new hq1).trans (same_new hq2)
      have S3 := S2.same s2
      obtain ⟨dx3, hp3⟩ := S3.ob
      have nwq : ww ≠ q2 := ne_of_none ((same_new hq1) _ _ S2.hw) hq2
      refine ⟨_, rfl, p, CS, dx3, _, _, rfl, hp3, T.clS, T.nW, sf_words _ _ _, _, rfl, _, rfl, _, rfl, _, rfl, _, _, rfl, rfl, _, rfl, ww, q2, _, _, ad, ad + k, rfl, rfl, rfl, rfl, S3.hw, Eq.trans upd_same (by rw [rep_ivs]), nwq, h0, by omega, ?_, ?_, ?_⟩
      · rw [ivs_len]
        exact hfit
      · rw [ivs_len, ivs_len, List.length_replicate]
        exact Nat.le_trans (show m1.words.length + k.toNat ≤ 20000 by omega) (by decide)
      rw [ivs_fill _ _ _ _ h0 hk rfl]
      have S4 := S3.setW (fill m1.words ad.toNat k.toNat 0)
      obtain ⟨y, ey, da, hya⟩ := S4.at_ j a ha
      have ey2 : z1 = y := Option.some.inj (hz.symm.trans ey)
      subst ey2
      refine ⟨_, rfl, a, CR, da, _, _, rfl, hya, T.clR, T.nA, rf_amount _ _ _ _, _, rfl, _, _, rfl, rfl, da, _, hya, rf_lt (by decide), ?_⟩
      rw [rf_pamount]
      have S5 := S4.setR (dx := da) ha { z1 with amt := z1.amt + k }
      have c5 := (c2.trans (Ch.same s2)).trans ((Ch.upd (o := .lst (ivs (fill m1.words ad.toNat k.toNat 0))) S3.fw).trans (Ch.upd (o := .ins CR da (rf z1.lives (z1.amt + k) z1.place z1.room)) (S4.fa (List.mem_of_getElem? ha))))
      obtain ⟨dx5, hp5⟩ := S5.ob
      refine ⟨_, rfl, p, dx5, _, rfl, hp5, rfl, _, rfl, _, rfl, p, dx5, ww, o, r, _, _, _, rfl, hp5, ?_⟩
      exact ⟨_, rfl, fin _ S5 c5⟩
    refine ⟨_, pss_cons (ps_if (pt_not (pt_val (C8.pe_mt mC hr (by decide) (pv 0) (pa_cons (pv 1) pa_nil)))) (pss_one (EscR.ps_raiseSe rfl ST hr (L2N.takes_of rfl rfl rfl rfl) (pa_cons pe_str pa_nil))) pss_nil)
      (pss_cons (ps_if (pt_cmpR op_lt (pv 2) pe_int (nomark _)) (pss_one (EscR.ps_raiseSe rfl ST hr (L2N.takes_of rfl rfl rfl rfl) (pa_cons pe_str pa_nil))) pss_nil)
      (pss_cons (ps_set (i := 3) scCe.nd rfl (Or.inl rfl) (pe_ix ix_list (pe_fld (pv 0) rfl) (pv 1) (fun _ _ => rfl)))
      (pss_cons (ps_if (pt_cmpR op_gt (pv 2) (pe_glob rfl hpw (v := .int 8) ⟨_, rfl⟩) (nomark _))
        (pss_cons (ps_set (i := 4) scCe.nd rfl (Or.inl rfl) (pe_op op_fdiv (pe_op op_sub (pe_op op_add (pv 2) (pe_glob rfl hpw (v := .int 8) ⟨_, rfl⟩)) pe_int) (pe_glob rfl hpw (v := .int 8) ⟨_, rfl⟩)))
          (pss_one (ps_set (i := 5) scCe.nd rfl (Or.inl rfl) (pe_op op_mul (C8.pe_mt mT hr (by decide) (pv 0) (pa_cons (pv 4) (pa_cons (pv 1) pa_nil))) (pe_glob rfl hpw (v := .int 8) ⟨_, rfl⟩)))))
        (pss_cons (ps_if (pt_cmpR op_lt (pe_fld (pv 3) rfl) (pv 2) (nomark _))
            (pss_cons (ps_fld (pv 3) (pe_op op_mul (C8.pe_mt mT hr (by decide) (pv 0) (pa_cons pe_int (pa_cons (pv 1) pa_nil))) (pe_glob rfl hpw (v := .int 8) ⟨_, rfl⟩)) rfl) (pss_one (ps_fld (pv 3) (pe_glob rfl hpw (v := .int 8) ⟨_, rfl⟩) rfl))) pss_nil)
          (pss_cons (ps_set (i := 5) scCe.nd rfl (Or.inl rfl) (pe_fld (pv 3) rfl)) (pss_cons (ps_fldaug (pv 3) (pv 2) in_add) (pss_one (ps_fldaug (pv 3) (pv 2) in_sub)))))) htt))), ?_⟩
    obtain ⟨dx, hp⟩ := S.ob
    refine ⟨_, rfl, p, dx, _, rfl, hp, rfl, _, rfl, p, F, m, ww, o, r, as, i, rfl, S, _, rfl, ?_⟩
    refine ite2 (fun hc => ?_) (fun hc => ?_)
    · have ho : openM m i = false := by simpa using hc
      exact ⟨_, rfl, fun d hd => qR ho d hd⟩
    have ho : openM m i = true := by simpa using hc
    refine ⟨_, rfl, _, _, rfl, rfl, _, rfl, ?_⟩
    refine ite2 (fun h1 => ?_) (fun h1 => ?_)
    · exact ⟨_, rfl, fun d hd => qW ho (of_decide_eq_true h1) d hd⟩
    have h1 : ¬ k < 1 := fun z => h1 (decide_eq_true z)
    obtain ⟨i0, i1, z, hz, hlv⟩ := open_reg ho
    obtain ⟨j, rfl⟩ : ∃ j : Nat, i = (j : Int) := ⟨i.toNat, by omega⟩
    rw [Int.toNat_natCast] at hz
    have q := fun H' => q ho h1 z (by rw [Int.toNat_natCast]; exact hz) H'
    rw [Int.toNat_natCast] at q
    obtain ⟨a, da, ea, ha⟩ := S.reg hz
    have hwl := wf.len
    refine ⟨_, rfl, p, CS, dx, _, _, rfl, hp, T.clS, T.nR, sf_regions _ _ _, _, rfl, r, _, _, _, rfl, rfl, SqL.of S.hr, at_of (j := j) (v := V.ref a) rfl (by rw [List.getElem?_map, ea]; rfl), ?_⟩
    refine ⟨_, rfl, _, _, rfl, rfl, _, rfl, ?_⟩
    unfold cellM at q
    refine ite2 (fun h8 => ?_) (fun h8 => ?_)
    · have h8 : k > 8 := of_decide_eq_true h8
      rw [if_pos h8] at q
      obtain ⟨n, hn⟩ : ∃ n : Nat, (k + 7) / 8 = (n : Int) := ⟨((k + 7) / 8).toNat, by omega⟩
      have en : (k + 8 - 1) / 8 = (n : Int) := by omega
      rw [hn, Int.toNat_natCast] at q
      refine ⟨_, rfl, _, _, rfl, rfl, _, _, rfl, rfl, _, _, rfl, rfl, ⟨by decide, by decide⟩, ?_⟩
      refine ⟨_, rfl, p, dx, _, rfl, hp, rfl, _, rfl, _, rfl, p, F, m, ww, o, r, as, n, (j : Int), by rw [← en]; rfl, S, by omega, by omega, by omega, by omega, fun H2 S2 c2 => ?_⟩
      have hn0 : 0 < n := by omega
      have hff := firstFree_le m.owners n
      refine ⟨_, _, rfl, rfl, .inl ⟨by omega, by omega⟩, ?_⟩
      have wt := wf_take (r := (j : Int)) wf hn0 (by omega) i1
      have hrm := take_room (r := (j : Int)) wf hn0
      have htl := take_len (m := m) (r := (j : Int)) hn0
      have hwt := wt.len
      refine rd H2 _ z _ j a _ S2 hz ea (by omega) (by omega) (by omega) (by omega) c2 fun H' S' c' => ?_
      have q2 := q H'
      have ew : fill (takeM m n ↑j).words ((firstFree m.owners n : Int) * 8).toNat k.toNat 0 = (takeM m n ↑j).words := fill_same (by omega) fun y y1 y2 => take_zero wf (by omega) (by omega)
      rw [ew] at S'
      have q3 := q2 S' c'
      rw [show (8 * (firstFree m.owners n : Int)) = (firstFree m.owners n : Int) * 8 by omega] at q3
      exact q3
    · have h8 : ¬ k > 8 := fun z => h8 (decide_eq_true z)
      rw [if_neg h8] at q
      obtain ⟨p0, r0, r8, pr⟩ := wf.reg j z hz
      refine ⟨_, rfl, a, CR, da, _, _, rfl, ha, T.clR, T.nM, rf_room _ _ _ _, _, rfl, _, _, rfl, rfl, _, rfl, ?_⟩
      refine ite2 (fun hr8 => ?_) (fun hr8 => ?_)
      · have hr8 : z.room < k := of_decide_eq_true hr8
        rw [if_pos hr8] at q
        refine ⟨_, rfl, p, dx, _, rfl, hp, rfl, _, rfl, p, F, m, ww, o, r, as, 1, (j : Int), rfl, S, by omega, by omega, by omega, by omega, fun H2 S2 c2 => ?_⟩
        have hff := firstFree_le m.owners 1
        have wt := wf_take (n := 1) (r := (j : Int)) wf (by omega) (by omega) i1
        have hrm := take_room (n := 1) (r := (j : Int)) wf (by omega)
        have htl := take_len (m := m) (n := 1) (r := (j : Int)) (by omega)
        have hwt := wt.len
        refine ⟨_, _, rfl, rfl, .inl ⟨by omega, by omega⟩, ?_⟩
        obtain ⟨y, ey, dy, hy⟩ := S2.at_ j a ea
        have ey2 : z = y := Option.some.inj (hz.symm.trans ey)
        subst ey2
        refine ⟨_, rfl, a, CR, dy, _, rfl, hy, T.clR, T.nP, rf_lt (by decide), ?_⟩
        refine ⟨_, rfl, a, CR, dy, _, rfl, upd_same, T.clR, T.nM, pl (rf_lt (by decide)), ?_⟩
        rw [upd_upd, rf_pplace, rf_proom]
        refine ⟨_, rfl, a, CR, dy, _, _, rfl, upd_same, T.clR, T.nP, rf_place _ _ _ _, ?_⟩
        refine ⟨_, rfl, a, CR, dy, _, _, rfl, upd_same, T.clR, T.nP, rf_place _ _ _ _, _, rfl, _, _, rfl, rfl, dy, _, upd_same, rf_lt (by decide), ?_⟩
        rw [upd_upd, rf_pplace]
        refine ⟨_, rfl, a, CR, dy, _, _, rfl, upd_same, T.clR, T.nM, rf_room _ _ _ _, _, rfl, _, _, rfl, rfl, dy, _, upd_same, rf_lt (by decide), ?_⟩
        rw [upd_upd, rf_proom]
        have S3 := S2.setR (dx := dy) ea { z with place := (firstFree m.owners 1 : Int) * 8 + k, room := 8 - k }
        have hj : j < m.regs.length := (List.getElem?_eq_some_iff.mp hz).1
        refine rd _ _ { z with place := (firstFree m.owners 1 : Int) * 8 + k, room := 8 - k } ((firstFree m.owners 1 : Int) * 8) j a _ S3 (List.getElem?_set_self hj) ea (by omega) (by omega) ?_ ?_ (c2.trans (Ch.upd (S2.fa (List.mem_of_getElem? ea)))) fun H' S' c' => ?_
        · show _ ≤ ((takeM m 1 ↑j).words.length : Int)
          omega
        · show (takeM m 1 ↑j).words.length ≤ 10000
          omega
        · have q2 := q H'
          have e8 : (8 * (firstFree m.owners 1 : Int)) = (firstFree m.owners 1 : Int) * 8 := by omega
          simp only [e8] at q2
          refine q2 ?_ c'
          have es : ((takeM m 1 ↑j).regs.set j { z with place := (firstFree m.owners 1 : Int) * 8 + k, room := 8 - k }).set j { lives := z.lives, amt := z.amt + k, place := (firstFree m.owners 1 : Int) * 8 + k, room := 8 - k } = (takeM m 1 ↑j).regs.set j { lives := z.lives, amt := z.amt + k, place := (firstFree m.owners 1 : Int) * 8 + k, room := 8 - k } := List.set_set ..
          rw [← es]
          exact S'
      · have hr8 : ¬ z.room < k := fun z => hr8 (decide_eq_true z)
        rw [if_neg hr8] at q
        refine ⟨_, rfl, a, CR, da, _, _, rfl, ha, T.clR, T.nP, rf_place _ _ _ _, ?_⟩
        refine ⟨_, rfl, a, CR, da, _, _, rfl, ha, T.clR, T.nP, rf_place _ _ _ _, _, rfl, _, _, rfl, rfl, da, _, ha, rf_lt (by decide), ?_⟩
        rw [rf_pplace]
        refine ⟨_, rfl, a, CR, da, _, _, rfl, upd_same, T.clR, T.nM, rf_room _ _ _ _, _, rfl, _, _, rfl, rfl, da, _, upd_same, rf_lt (by decide), ?_⟩
        rw [upd_upd, rf_proom]
        have S3 := S.setR (dx := da) ea { z with place := z.place + k, room := z.room - k }
        have hj : j < m.regs.length := (List.getElem?_eq_some_iff.mp hz).1
        refine rd _ _ { z with place := z.place + k, room := z.room - k } z.place j a _ S3 (List.getElem?_set_self hj) ea p0 (by omega) ?_ ?_ (Ch.upd (S.fa (List.mem_of_getElem? ea))) fun H' S' c' => ?_
        · show _ ≤ (m.words.length : Int)
          omega
        · show m.words.length ≤ 10000
          omega
        · refine q H' ?_ c'
          have es : (m.regs.set j { z with place := z.place + k, room := z.room - k }).set j { lives := z.lives, amt := z.amt + k, place := z.place + k, room := z.room - k } = m.regs.set j { lives := z.lives, amt := z.amt + k, place := z.place + k, room := z.room - k } := List.set_set ..
          rw [← es]
          exact S'
end
end Esc

/-! end. -/
namespace Esc
open PySem L2
/-- over enumerate of a list -/
theorem for_enum {K : PySem.W.Frag} {a : Addr} {xs : List V} {g : TG} {tb : TS} {D : Ends} {σ : L2.St} {H : Hp} (Pv : Nat → L2.St → Hp → Prop) (h0 : Pv 0 σ H) (hl : ∀ i σ H, i ≤ xs.length → Pv i σ H → SqL K H a xs)
    (hs : ∀ i x σ H T, xs[i]? = some x → Pv i σ H → H T = none → g (.ref T) σ (upd H T (.tup [V.int i, x])) fun σ2 H2 => tb { D with nx := Pv (i + 1), ct := Pv (i + 1), bk := D.nx } σ2 H2) (hd : ∀ σ H, Pv xs.length σ H → D.nx σ H) :
    ∃ W : Nat → Nat → L2.St → Hp → Prop, (∃ m, W 0 m σ H) ∧ ∀ i m σ H, W i m σ H →
      ((Ite K a).stop i H ∧ D.nx σ H) ∨ ((Ite K a).go i H ∧ ∃ N : L2.St → Hp → Prop, (∀ σ' H', N σ' H' → ∃ m', m' < m ∧ W (i + 1) m' σ' H') ∧ ∀ x H', (Ite K a).yld i H x H' → g x σ H' fun σ2 H2 => tb { D with nx := N, ct := N, bk := D.nx } σ2 H2) := by
  refine ⟨fun i m σ H => m = xs.length - i ∧ i ≤ xs.length ∧ Pv i σ H, ⟨xs.length, by simp, Nat.zero_le _, h0⟩, ?_⟩
  rintro i m σ H ⟨rfl, hi, p⟩
  have q := hl i σ H hi p
  by_cases hlt : i < xs.length
  · refine .inr ⟨⟨xs, xs[i], q, by simp [hlt]⟩, Pv (i + 1), fun σ' H' p' => ⟨xs.length - (i + 1), by omega, rfl, hlt, p'⟩, fun x H' y => ?_⟩
    obtain ⟨T, y0, e1, e2, e3, e4⟩ := y
    subst e1 e3
    exact hs i y0 σ H T (e4 xs q) p e2
  · have e : i = xs.length := by omega
    subst e
    exact .inl ⟨⟨xs, q, Nat.le_refl _⟩, hd σ H p⟩
/-- what the store says of the end: no words -/
def endP (m : Mem) (i : Nat) (z : Reg) : Mem := { endM m i z with regs := m.regs.set i { z with lives := false, amt := 0 } }
def spEnd (CS CR C : Addr) : Sp := fun vs H Q E => ∃ p F m w o r as, ∃ (i : Int), vs = [.ref p, .int i] ∧ StoreAt CS CR H F p m w o r as ∧ Wf m ∧ m.owners.length ≤ 500 ∧
  (openM m i = false → ∀ d, H d = none → E (.ref C) (some d) (upd H d (reasonD errR))) ∧
  (openM m i = true → ∀ z, m.regs[i.toNat]? = some z → ∀ H', StoreAt CS CR H' F p (endP m i.toNat z) w o r as → Ch F F H H' → Q .non H')
section
variable {P : Program} {w : World} {K : PySem.W.Frag} {mg : Str → Option Value} {base : Heap} {CS CR C fI cc cda : Addr}
theorem scEn : FnScope ["self", "region", "state", "page", "owner", "start"] ["self", "region"] (defScope sEnd) := ⟨rfl, rfl, rfl, by decide +kernel, rfl, by decide +kernel, by decide +kernel⟩
theorem ok_end {f : Addr} {fd : FuncData} (F : Fun K "end" "Store.end" sEnd f fd) (T : Txt K mg CS CR) (ST : EscR.SeTxt P K mg C fI cc cda) (mC : C8.Met P w K mg base 2 CS "is_current" (spIsCur CS CR) []) (mR : C8.Met P w K mg base 1 CS "record" (spRecord CS) []) :
    FnOk P w K mg base (L2N.CX P w) 3 f fd ["self", "region"] (spEnd CS CR C) := by
  refine okN F scEn (fun vs H Q E h => ?_) (fun cdv A outer s H vs Q E hr h => ?_)
  · obtain ⟨p, F, m, w, o, r, as, i, rfl, _⟩ := h
    rfl
  · obtain ⟨p, F, m, ww, o, r, as, i, rfl, S, wf, hl, qR, q⟩ := h
    obtain ⟨tk, hpw⟩ := T.pw
    have hsz : ∀ k : Nat, k ≤ 20000 → k ≤ sizeLine := fun k h => Nat.le_trans h (by decide)
    refine ⟨_, pss_cons (ps_if (pt_not (pt_val (C8.pe_mt mC hr (by decide) (pv 0) (pa_cons (pv 1) pa_nil)))) (pss_one (EscR.ps_raiseSe rfl ST hr (L2N.takes_of rfl rfl rfl rfl) (pa_cons pe_str pa_nil))) pss_nil)
      (PSs.nox (pss_cons (ps_set (i := 2) scEn.nd rfl (Or.inl rfl) (pe_ix ix_list (pe_fld (pv 0) rfl) (pv 1) (fun _ _ => rfl)))
        (pss_cons (ps_fld (pv 2) pe_bl rfl) (pss_cons (ps_fld (pv 2) pe_int rfl)
        (pss_cons (ps_for PassesOwn.never rfl (pi_enum (by rfl) T.bEnum (pa_cons (pe_callTy call_list_of rfl T.bList (by decide +kernel) (pa_cons (pe_fld (pv 0) rfl) pa_nil)) pa_nil)) (pg_tup rfl (pgs_cons (pg_name (i := 3) scEn.nd rfl (Or.inl rfl)) (pgs_cons (pg_name (i := 4) scEn.nd rfl (Or.inl rfl)) pgs_nil)))
          (pss_one (ps_if (pt_cmpR op_eq (pv 4) (pv 1) (nomark _))
            (pss_cons (ps_asg (pe_un un_neg pe_int) (pg_sub (pe_fld (pv 0) rfl) (pv 3) set_list))
            (pss_cons (ps_set (i := 5) scEn.nd rfl (Or.inl rfl) (pe_op op_mul (pv 3) (pe_glob rfl hpw (v := .int 8) ⟨_, rfl⟩)))
            (pss_one (ps_asg (pe_op op_rep (pe_lst (pa_cons pe_int pa_nil)) (pe_glob rfl hpw (v := .int 8) ⟨_, rfl⟩)) (EscR.pg_slice (pe_fld (pv 0) rfl) (po_some (pv 5)) (po_some (pe_op op_add (pv 5) (pe_glob rfl hpw (v := .int 8) ⟨_, rfl⟩)))))))) pss_nil)))
        (pss_one (ps_expr (C8.pe_mt mR hr (by decide) (pv 0) (pa_cons pe_str (pa_cons (pv 1) (pa_cons pe_int pa_nil))))))))))), ?_⟩
    obtain ⟨dx, hp⟩ := S.ob
    refine ⟨_, rfl, p, dx, _, rfl, hp, rfl, _, rfl, p, F, m, ww, o, r, as, i, rfl, S, _, rfl, ?_⟩
    refine ite2 (fun hc => ?_) (fun hc => ?_)
    · have ho : openM m i = false := by simpa using hc
      exact ⟨_, rfl, fun d hd => qR ho d hd⟩
    have ho : openM m i = true := by simpa using hc
    obtain ⟨i0, i1, z, hz, hlv⟩ := open_reg ho
    obtain ⟨j, rfl⟩ : ∃ j : Nat, i = (j : Int) := ⟨i.toNat, by omega⟩
    have q := q ho z hz
    rw [Int.toNat_natCast] at hz q
    obtain ⟨a, da, ea, ha⟩ := S.reg hz
    have hwl := wf.len
    refine ⟨_, rfl, p, CS, dx, _, _, rfl, hp, T.clS, T.nR, sf_regions _ _ _, _, rfl, r, _, _, _, rfl, rfl, SqL.of S.hr, at_of (j := j) (v := V.ref a) rfl (by rw [List.getElem?_map, ea]; rfl), ?_⟩
    refine ⟨_, rfl, a, CR, da, _, rfl, ha, T.clR, T.nL, rf_lt (by decide), ?_⟩
    refine ⟨_, rfl, a, CR, da, _, rfl, upd_same, T.clR, T.nA, pl (rf_lt (by decide)), ?_⟩
    rw [upd_upd, rf_plives, rf_pamount]
    have S1 := S.setR (dx := da) ea { z with lives := false, amt := 0 }
    have c1 : Ch F F H (upd H a (.ins CR da (rf false 0 z.place z.room))) := Ch.upd (S.fa (List.mem_of_getElem? ea))
    obtain ⟨dx1, hp1⟩ := S1.ob
    refine ⟨_, rfl, p, CS, dx1, _, _, rfl, hp1, T.clS, T.nO, sf_owners _ _ _, o, _, rfl, .inl (SqL.of S1.ho), fun l hlf => ?_⟩
    have fl : ¬ F l := fun f => by
      obtain ⟨u, e⟩ := S1.live l f
      rw [hlf] at e
      cases e
    refine ⟨l, _, rfl, SqL.of upd_same, ?_⟩
    refine for_enum (K := K) (a := l) (xs := ivs m.owners) (fun k σ H' => ∃ v3 v4 v5, σ = [some (.ref p), some (.int j), some (.ref a), v3, v4, v5] ∧
      StoreAt CS CR H' F p { words := endW m.owners j m.words k, owners := endO m.owners j k, regs := m.regs.set j { z with lives := false, amt := 0 } } ww o r as ∧ Ch F F H H' ∧ H' l = some (.lst (ivs m.owners)))
      ⟨none, none, none, rfl, S1.same (same_new hlf), c1.trans (Ch.new1 hlf), upd_same⟩ (fun k σ H' _ ⟨_, _, _, _, _, _, e⟩ => SqL.of e) ?_ ?_
    · rintro k x σ H2 t hx ⟨v3, v4, v5, rfl, S2, c2, hl2⟩ ht
      obtain ⟨y, ey, rfl⟩ : ∃ y, m.owners[k]? = some y ∧ x = V.int y := by
        unfold ivs at hx
        rw [List.getElem?_map] at hx
        cases e : m.owners[k]? with
        | none =>
          rw [e] at hx
          cases hx
        | some y =>
          rw [e] at hx
          exact ⟨y, rfl, (Option.some.inj hx).symm⟩
      have hk : k < m.owners.length := (List.getElem?_eq_some_iff.mp ey).1
      have sT := same_new (o := .tup [V.int (k : Nat), V.int y]) ht
      have S3 := S2.same sT
      have c3 := c2.trans (Ch.same sT)
      have hl3 := sT _ _ hl2
      refine ⟨t, _, rfl, SqT.of upd_same, rfl, _, _, rfl, _, _, rfl, rfl, ?_⟩
      refine ⟨_, rfl, _, rfl, rfl, _, rfl, ?_⟩
      refine ite2 (fun he => ?_) (fun he => ?_)
      · have he : y = (j : Int) := V.int.inj (of_decide_eq_true he)
        subst he
        obtain ⟨dx3, hp3⟩ := S3.ob
        refine ⟨_, rfl, _, rfl, p, CS, dx3, _, _, rfl, hp3, T.clS, T.nO, sf_owners _ _ _, _, rfl, o, _, _, k, rfl, rfl, S3.ho, ?_, ?_⟩
        · rw [ivs_len, endO_len]
          exact ixn_nat hk
        rw [ivs_set, endO_hit ey]
        have S4 := S3.setO (endO m.owners j (k + 1))
        have c4 := c3.trans (Ch.upd (o := .lst (ivs (endO m.owners j (k + 1)))) S3.fo)
        have hl4 : upd (upd H2 t (.tup [V.int (k : Nat), V.int (j : Int)])) o (.lst (ivs (endO m.owners j (k + 1)))) l = some (.lst (ivs m.owners)) := by
          rw [upd_ne (fun e => fl (by rw [e]; exact S3.fo))]
          exact hl3
        refine ⟨_, rfl, _, _, rfl, rfl, .inl ⟨by omega, by omega⟩, ?_⟩
        refine ⟨by decide, fun q1 hq1 => ?_⟩
        refine ⟨q1, _, [V.int 0], rfl, rfl, upd_same, (by decide), (by decide), by decide, fun q2 hq2 => ?_⟩
        have s5 := (same_new (o := .lst [V.int 0]) hq1).trans (same_new (o := .lst (List.replicate (8 : Int).toNat [V.int 0]).flatten) hq2)
        have S5 := S4.same s5
        obtain ⟨dx5, hp5⟩ := S5.ob
        have nwq : ww ≠ q2 := ne_of_none ((same_new hq1) _ _ S4.hw) hq2
        have ewl : (endW m.owners j m.words k).length = m.words.length := endW_len (by omega)
        refine ⟨_, rfl, p, CS, dx5, _, _, rfl, hp5, T.clS, T.nW, sf_words _ _ _, _, rfl, _, rfl, _, rfl, _, _, rfl, rfl, _, rfl, ww, q2, _, _, (k : Int) * 8, (k : Int) * 8 + 8, rfl, rfl, rfl, rfl, S5.hw, Eq.trans upd_same (by rw [rep_ivs]), nwq, by omega, by omega, ?_, ?_, ?_⟩
        · rw [ivs_len, ewl]
          omega
        · rw [ivs_len, ivs_len, List.length_replicate, ewl]
          exact hsz _ (show m.words.length + 8 ≤ 20000 by omega)
        rw [ivs_fill _ _ _ _ (by omega) (by decide) rfl]
        have S6 := S5.setW (fill (endW m.owners j m.words k) ((k : Int) * 8).toNat (8 : Int).toNat 0)
        have c6 := (c4.trans (Ch.same s5)).trans (Ch.upd (o := .lst (ivs (fill (endW m.owners j m.words k) ((k : Int) * 8).toNat (8 : Int).toNat 0))) S5.fw)
        have e8 : ((k : Int) * 8).toNat = 8 * k := by omega
        refine ⟨_, _, _, rfl, ?_, c6, ?_⟩
        · rw [endW_hit ey, ← e8]
          exact S6
        · rw [upd_ne (fun e => fl (by rw [e]; exact S5.fw))]
          exact s5 _ _ hl4
      · have he : ¬ m.owners[k]? = some (j : Int) := fun e => he (decide_eq_true (by rw [ey] at e; exact congrArg V.int (Option.some.inj e)))
        refine ⟨_, _, _, rfl, ?_, c3, hl3⟩
        rw [endW_miss he, endO_miss he]
        exact S3
    · rintro σ H2 ⟨v3, v4, v5, rfl, S2, c2, _⟩
      rw [ivs_len] at S2
      obtain ⟨dx2, hp2⟩ := S2.ob
      exact ⟨_, rfl, p, dx2, _, rfl, hp2, rfl, _, rfl, p, dx2, ww, o, r, _, _, _, rfl, hp2, q _ S2 c2⟩
end
end Esc

/-! current. -/
namespace Esc
open PySem L2 GenW EscR
def liveK (m : Mem) (k : Nat) : List Int := ((List.range k).filter fun i => match m.regs[i]? with | some z => z.lives | none => false).map fun i : Nat => (i : Int)
theorem liveK_yes {m : Mem} {k : Nat} {z : Reg} (h : m.regs[k]? = some z) (hz : z.lives = true) : liveK m (k + 1) = liveK m k ++ [(k : Int)] := by
  unfold liveK
  rw [List.range_succ, List.filter_append, List.map_append]
  congr 1
  rw [List.filter_cons, h]
  simp [hz]
theorem liveK_no {m : Mem} {k : Nat} {z : Reg} (h : m.regs[k]? = some z) (hz : ¬ z.lives = true) : liveK m (k + 1) = liveK m k := by
  unfold liveK
  rw [List.range_succ, List.filter_append, List.map_append]
  rw [List.filter_cons, h]
  simp [hz]
theorem liveK_len (m : Mem) (k : Nat) : (liveK m k).length ≤ k := by
  unfold liveK
  rw [List.length_map]
  exact Nat.le_trans (List.length_filter_le _ _) (by rw [List.length_range]; exact Nat.le_refl _)
theorem liveK_all (m : Mem) : liveK m m.regs.length = liveM m := rfl
def spCurrent (CS CR : Addr) : SpG := fun vs H Q _ => ∃ p F m w o r as, vs = [.ref p] ∧ StoreAt CS CR H F p m w o r as ∧ m.regs.length < 1000 ∧ Q (ivs (liveM m)) H
section
variable {P : Program} {w : World} {K : PySem.W.Frag} {mg : Str → Option Value} {base : Heap} {CS CR : Addr}
theorem scCn : GScope ["self", "region"] ["self"] (defScope sCurrent) := ⟨rfl, rfl, rfl, by decide +kernel, rfl, by decide +kernel, by decide +kernel⟩
theorem ok_current {f : Addr} {oc kV doc pm cdv ct : Value} {an od : Option Addr} {osl : Array (Option Value)} (lk : K.lookup f = some ⟨oc, od, .func (PySem.W.fnOf "current" "Store.current" (defArgs sCurrent) (defBody sCurrent) (defScope sCurrent) .none kV doc pm an cdv ct), osl⟩) (hcd : PySem.W.codeIn K cdv "Store.current" = true) (T : Txt K mg CS CR) :
    GFn P w K mg base 1 f (PySem.W.fnOf "current" "Store.current" (defArgs sCurrent) (defBody sCurrent) (defScope sCurrent) .none kV doc pm an cdv ct) ["self"] (spCurrent CS CR) := by
  refine gfn_of lk hcd scCn (fun vs H Q E h => ?_) (fun A outer s H vs Q E pn hr h => ?_)
  · obtain ⟨p, F, m, w, o, r, as, rfl, _⟩ := h
    rfl
  · obtain ⟨p, F, m, ww, o, r, as, rfl, S, hl, q⟩ := h
    refine ⟨_, gss_cons (gs_for owns_gcx rfl (pi_range1 rfl T.bRange (pa_cons (pe_callB call_len_seq (by rfl) T.bLen PySem.boot_len (pa_cons (pe_fld (pv 0) rfl) pa_nil)) pa_nil)) (pg_name (i := 1) scCn.nd rfl (Or.inl rfl))
      (gss_cons (gs_if (pt_val (pe_fld (pe_ix ix_list (pe_fld (pv 0) rfl) (pv 1) (fun _ _ => rfl)) rfl)) (gss_cons (gs_yield (pv 1)) gss_nil) gss_nil) gss_nil)) gss_nil, ?_⟩
    obtain ⟨dx, hp⟩ := S.ob
    refine ⟨_, rfl, p, CS, dx, _, _, rfl, hp, T.clS, T.nR, sf_regions _ _ _, r, _, rfl, .inl (SqL.of S.hr), _, rfl, ?_, ?_, ?_⟩
    · omega
    · rw [List.length_map, S.len]
      omega
    rw [List.length_map, S.len, Int.toNat_natCast]
    refine gfor_range (fun k ys σ H' => ∃ v, σ = [some (.ref p), v] ∧ H' = H ∧ ys = ivs (liveK m k)) ⟨none, rfl, rfl, rfl⟩ ?_ ?_
    · rintro k ys σ H' hk ⟨v, rfl, rfl, rfl⟩
      obtain ⟨a, da, ea, ha⟩ := S.reg (List.getElem?_eq_getElem hk)
      refine ⟨_, rfl, p, CS, dx, _, _, rfl, hp, T.clS, T.nR, sf_regions _ _ _, _, rfl, r, _, _, _, rfl, rfl, SqL.of S.hr, at_of (j := k) (v := V.ref a) (by omega) (by rw [List.getElem?_map, ea]; rfl), a, CR, da, _, _, rfl, ha, T.clR, T.nL, rf_lives _ _ _ _, _, rfl, ?_⟩
      refine ite2 (fun hv => ?_) (fun hv => ?_)
      · refine ⟨?_, _, rfl, ?_⟩
        · rw [ivs_len]
          exact Nat.lt_of_le_of_lt (liveK_len m k) (Nat.lt_trans (Nat.lt_trans hk hl) (by decide))
        · refine ⟨_, rfl, rfl, ?_⟩
          rw [liveK_yes (List.getElem?_eq_getElem hk) hv, ivs_app, Int.zero_add]
          rfl
      · refine ⟨_, rfl, rfl, ?_⟩
        rw [liveK_no (List.getElem?_eq_getElem hk) hv]
    · rintro ys σ H' ⟨v, rfl, rfl, rfl⟩
      exact q
end
end Esc

/-! The law's helpers: the draws, a new model, begin. -/
namespace Esc
open PySem L2
/-- all but the object at a is as it was -/
def Only (a : Addr) (H H' : Hp) : Prop := ∀ b, b ≠ a → H' b = H b
theorem Only.refl (a : Addr) (H : Hp) : Only a H H := fun _ _ => rfl
theorem Only.upd {a : Addr} {H : Hp} {o : HO} : Only a H (L2.upd H a o) := fun b nb => upd_ne nb
theorem Only.trans {a : Addr} {H H1 H2 : Hp} (x : Only a H H1) (y : Only a H1 H2) : Only a H H2 := fun b nb => (y b nb).trans (x b nb)
/-- the state of the draws -/
structure StateAt (H : Hp) (st sc : Addr) (ns : List Int) : Prop where
  ob : ∃ a b c : Int, 0 ≤ b ∧ H st = some (.lst [.ref sc, .int a, .int b, .int c])
  hs : H sc = some (.lst (ivs ns))
  ne : st ≠ sc
theorem StateAt.only {H H' : Hp} {st sc p : Addr} {ns : List Int} (S : StateAt H st sc ns) (h : Only p H H') (n1 : st ≠ p) (n2 : sc ≠ p) : StateAt H' st sc ns :=
  ⟨let ⟨a, b, c, h0, e⟩ := S.ob; ⟨a, b, c, h0, by rw [h _ n1]; exact e⟩, by rw [h _ n2]; exact S.hs, S.ne⟩
theorem StateAt.same {H H' : Hp} {st sc : Addr} {ns : List Int} (S : StateAt H st sc ns) (h : Same H H') : StateAt H' st sc ns :=
  ⟨let ⟨a, b, c, h0, e⟩ := S.ob; ⟨a, b, c, h0, h _ _ e⟩, h _ _ S.hs, S.ne⟩
theorem StateAt.set {H : Hp} {st sc : Addr} {ns : List Int} (S : StateAt H st sc ns) {a b c : Int} (h0 : 0 ≤ b) : StateAt (upd H st (.lst [.ref sc, .int a, .int b, .int c])) st sc ns :=
  ⟨⟨a, b, c, h0, upd_same⟩, by rw [upd_ne S.ne.symm]; exact S.hs, S.ne⟩

section specs
def spStart (K : PySem.W.Frag) : Sp := fun vs H Q _ => ∃ a, ∃ ns : List Int, vs = [.ref a] ∧ SqL K H a (ivs ns) ∧ ∀ H' st sc, StateAt H' st sc ns → Same H H' → H st = none → H sc = none → Q (.ref st) H'
def spDraw : Sp := fun vs H Q _ => ∃ st sc, ∃ ns : List Int, ∃ n : Int, vs = [.ref st, .int n] ∧ StateAt H st sc ns ∧ 0 < n ∧ n < 2 ^ 40 ∧ ∀ H' v, StateAt H' st sc ns → Only st H H' → 0 ≤ v → v < n → Q (.int v) H'
def spNew : Sp := fun vs H Q _ => vs = [] ∧ ∀ H' F' p o w l s a, ModelAt H' F' p emptyM o w l s a [] → Same H H' → (∀ b, F' b → H b = none) → Q (.ref p) H'
def spLBegin : Sp := fun vs H Q _ => ∃ p F m o w l s a ss, vs = [.ref p] ∧ ModelAt H F p m o w l s a ss ∧ m.regs.length < 1000 ∧
  ∀ H' F' q, ModelAt H' F' p (beginM m) o w l s a (ss ++ [q]) → Ch F F' H H' → Q (.int m.regs.length) H'
end specs

section
variable {P : Program} {w : World} {K : PySem.W.Frag} {mg : Str → Option Value} {base : Heap} {CS CR : Addr}
theorem scLi : FnScope ["_law_actual"] ["_law_actual"] (defScope lIsInt) := ⟨rfl, rfl, rfl, by decide +kernel, rfl, by decide +kernel, by decide +kernel⟩
theorem ok_lisint {f : Addr} {fd : FuncData} (F : Fun K "_law_is_integer" "_law_is_integer" lIsInt f fd) (T : Txt K mg CS CR) : FnOk P w K mg base CX0 1 f fd ["_law_actual"] spIsInt := by
  refine F.ok scLi (fun vs H Q E h => ?_) (fun cdv A outer s H vs Q E hr h => ?_)
  · obtain ⟨i, rfl, _⟩ := h
    rfl
  · obtain ⟨i, rfl, q⟩ := h
    refine ⟨_, pss_one (ps_ret (pe_and (pe_callB call_isi (by rfl) T.bIsi (by decide +kernel) (pa_cons (pv 0) (pa_cons (pe_bltn rfl T.bInt PySem.Pv.boot_int (v := .ty "int") rfl) pa_nil)))
      (pe_one (pe_not (pe_callB call_isi (by rfl) T.bIsi (by decide +kernel) (pa_cons (pv 0) (pa_cons (pe_bltn rfl T.bBool PySem.Pv.boot_bool (v := .ty "bool") rfl) pa_nil))))))), ?_⟩
    refine ⟨_, rfl, _, _, _, _, true, rfl, .ty _, tyx_int, kit_ty (by decide +kernel), true, rfl, ?_⟩
    refine ⟨_, rfl, _, _, _, _, false, rfl, .ty _, tyx_int, kit_ty (by decide +kernel), false, rfl, q⟩

theorem scSt : FnScope ["_law_script", "_law_seed", "_law_cell_here"] ["_law_script"] (defScope lStart) := ⟨rfl, rfl, rfl, by decide +kernel, rfl, by decide +kernel, by decide +kernel⟩
theorem ok_start {f : Addr} {fd : FuncData} (F : Fun K "_law_start" "_law_start" lStart f fd) (T : Txt K mg CS CR) : FnOk P w K mg base CX0 1 f fd ["_law_script"] (spStart K) := by
  refine F.ok scSt (fun vs H Q E h => ?_) (fun cdv A outer s H vs Q E hr h => ?_)
  · obtain ⟨a, ns, rfl, _⟩ := h
    rfl
  · obtain ⟨a, ns, rfl, hS, q⟩ := h
    refine ⟨_, pss_cons (ps_set (i := 1) scSt.nd rfl (Or.inl rfl) pe_int) (pss_cons (ps_for PassesOwn.never rfl (pi_list (pv 0)) (pg_name (i := 2) scSt.nd rfl (Or.inl rfl))
        (pss_one (ps_set (i := 1) scSt.nd rfl (Or.inl rfl) (pe_op op_add (pe_op op_mod (pe_callTy call_int1 rfl T.bInt PySem.Pv.boot_int (pa_cons (pe_op op_add (pe_op op_mul (pv 1) pe_int) (pv 2)) pa_nil)) pe_int) pe_int))))
      (pss_one (ps_ret (pe_lst (pa_cons (pe_callTy call_list_of rfl T.bList PySem.Pv.boot_list (pa_cons (pv 0) pa_nil)) (pa_cons pe_int (pa_cons pe_int (pa_cons (pv 1) pa_nil)))))))), ?_⟩
    refine ⟨_, rfl, a, rfl, ⟨_, hS⟩, for_list (K := K) (a := a) (xs := ivs ns) (fun i σ H' => ∃ (c : Int) (v : Option V), σ = [some (.ref a), some (.int c), v] ∧ H' = H) ⟨7, none, rfl, rfl⟩ (fun i σ H' _ ⟨_, _, _, e⟩ => by rw [e]; exact hS) ?_ ?_⟩
    · rintro i y σ H' hi ⟨c, v, rfl, rfl⟩
      obtain ⟨u, rfl⟩ : ∃ u, y = V.int u := by
        unfold ivs at hi
        rw [List.getElem?_map] at hi
        cases e : ns[i]? with
        | none =>
          rw [e] at hi
          cases hi
        | some u =>
          rw [e] at hi
          exact ⟨u, (Option.some.inj hi).symm⟩
      refine ⟨_, rfl, _, _, rfl, rfl, .inr ⟨by decide, by decide⟩, _, rfl, _, _, rfl, rfl, .inl ⟨_, rfl, _, _, rfl, rfl, (by show (0 : Int) < 2147483629; decide), _, _, rfl, rfl, ?_⟩⟩
      exact ⟨_, _, rfl, rfl⟩
    · rintro σ H' ⟨c, v, rfl, rfl⟩
      refine ⟨_, rfl, a, _, rfl, .inl hS, fun l hl => ?_⟩
      refine ⟨_, rfl, (by show 4 ≤ sizeLine; decide), fun t ht => ?_⟩
      have nlt : l ≠ t := ne_of_none upd_same ht
      refine q _ t l ⟨⟨0, 0, c, Int.le_refl _, upd_same⟩, by rw [upd_ne nlt]; exact upd_same, nlt.symm⟩ ((same_new hl).trans (same_new ht)) ?_ hl
      rw [upd_ne nlt.symm] at ht
      exact ht

theorem scDr : FnScope ["_law_state", "_law_many", "_law_value"] ["_law_state", "_law_many"] (defScope lDraw) := ⟨rfl, rfl, rfl, by decide +kernel, rfl, by decide +kernel, by decide +kernel⟩
theorem ok_draw {f : Addr} {fd : FuncData} (F : Fun K "_law_draw" "_law_draw" lDraw f fd) (T : Txt K mg CS CR) : FnOk P w K mg base CX0 1 f fd ["_law_state", "_law_many"] spDraw := by
  refine F.ok scDr (fun vs H Q E h => ?_) (fun cdv A outer s H vs Q E hr h => ?_)
  · obtain ⟨st, sc, ns, n, rfl, _⟩ := h
    rfl
  · obtain ⟨st, sc, ns, n, rfl, S, h0, h1, q⟩ := h
    obtain ⟨tt, htt, rd⟩ : ∃ t, PSs (cxOf CX0 P w K mg base ["_law_state", "_law_many", "_law_value"] "_law_draw" (defScope lDraw) f cdv A outer s H E).nox ((defBody lDraw).drop 2) t ∧
        ∀ (H2 : Hp), StateAt H2 st sc ns → Only st H H2 → t { nx := fun _ H' => Q .non H', rt := Q } [some (.ref st), some (.int n), none] H2 := by
      refine ⟨_, pss_cons (ps_set (i := 2) scDr.nd rfl (Or.inl rfl) (pe_op op_mod (pe_callTy call_int1 rfl T.bInt PySem.Pv.boot_int (pa_cons (pe_ix ix_list (pv 0) pe_int (fun _ _ => rfl)) pa_nil)) (pv 1)))
        (pss_cons (ps_asg (pe_op op_fdivW (pe_ix ix_list (pv 0) pe_int (fun _ _ => rfl)) (pv 1)) (pg_sub (pv 0) pe_int set_list)) (pss_one (ps_ret (pv 2)))), ?_⟩
      intro H2 S2 o2
      obtain ⟨a, b, c, hb, e⟩ := S2.ob
      refine ⟨_, rfl, st, _, _, _, rfl, rfl, SqL.of e, rfl, .inl ⟨_, rfl, _, rfl, _, _, rfl, rfl, h0, ?_⟩⟩
      refine ⟨_, rfl, st, _, _, _, rfl, rfl, SqL.of e, rfl, _, rfl, _, _, rfl, rfl, wide_div (b := 40) h0 (by omega) (by decide) (by decide), ?_⟩
      refine ⟨_, rfl, st, _, _, 1, rfl, rfl, e, rfl, _, rfl, ?_⟩
      exact q _ _ (S2.set hb) (o2.trans Only.upd) (Int.emod_nonneg _ (by omega)) (Int.emod_lt_of_pos _ h0)
    obtain ⟨a, b, c, hb, e⟩ := S.ob
    obtain ⟨t2, ht2, rd2⟩ : ∃ t, PSs (cxOf CX0 P w K mg base ["_law_state", "_law_many", "_law_value"] "_law_draw" (defScope lDraw) f cdv A outer s H E).nox ((defBody lDraw).drop 1) t ∧
        (¬ (a = 0 ∧ (ns.length : Int) ≤ b) → t { nx := fun _ H' => Q .non H', rt := Q } [some (.ref st), some (.int n), none] H) := by
      refine ⟨_, pss_cons (ps_if (pt_cmpR op_eq (pe_ix ix_list (pv 0) pe_int (fun _ _ => rfl)) pe_int (nomark _))
        (pss_cons (ps_asg (pe_callB call_abs (by rfl) T.bAbs (by decide +kernel) (pa_cons (pe_ix ix_list (pe_ix ix_list (pv 0) pe_int (fun _ _ => rfl)) (pe_ix ix_list (pv 0) pe_int (fun _ _ => rfl)) (fun _ _ => rfl)) pa_nil)) (pg_sub (pv 0) pe_int set_list))
          (pss_one (ps_asg (pe_op op_add (pe_ix ix_list (pv 0) pe_int (fun _ _ => rfl)) pe_int) (pg_sub (pv 0) pe_int set_list)))) pss_nil) htt, ?_⟩
      intro hn
      refine ⟨_, rfl, st, _, _, _, rfl, rfl, SqL.of e, rfl, rfl, _, rfl, ?_⟩
      refine ite2 (fun hz => ?_) (fun hz => ?_)
      · have hz : a = 0 := V.int.inj (of_decide_eq_true hz)
        have hbl : b.toNat < ns.length := by omega
        refine ⟨_, rfl, st, _, _, _, rfl, rfl, SqL.of e, rfl, _, rfl, st, _, _, _, rfl, rfl, SqL.of e, rfl, sc, _, _, _, rfl, rfl, SqL.of S.hs, ivs_nth (List.getElem?_eq_getElem hbl) (by omega), _, rfl, ?_⟩
        refine ⟨_, rfl, st, _, _, 1, rfl, rfl, e, rfl, ?_⟩
        have S1 := S.set (a := if ns[b.toNat] < 0 then -ns[b.toNat] else ns[b.toNat]) (c := c) hb
        refine ⟨_, rfl, st, _, _, _, rfl, rfl, SqL.of upd_same, rfl, _, _, rfl, rfl, _, rfl, st, _, _, 2, rfl, rfl, upd_same, rfl, ?_⟩
        have e2 : upd (upd H st (.lst ([V.ref sc, .int a, .int b, .int c].set 1 (.int (if ns[b.toNat] < 0 then -ns[b.toNat] else ns[b.toNat]))))) st (.lst (([V.ref sc, .int a, .int b, .int c].set 1 (.int (if ns[b.toNat] < 0 then -ns[b.toNat] else ns[b.toNat]))).set 2 (.int (b + 1)))) = upd H st (.lst [.ref sc, .int (if ns[b.toNat] < 0 then -ns[b.toNat] else ns[b.toNat]), .int (b + 1), .int c]) := upd_upd
        rw [e2]
        exact rd _ (S.set (by omega)) Only.upd
      · exact rd _ S (Only.refl _ _)
    refine ⟨_, pss_cons (ps_if (PW.pt (pw_and (pt_cmpR op_eq (pe_ix ix_list (pv 0) pe_int (fun _ _ => rfl)) pe_int (nomark _)) (pw_and1 (pt_cmpR op_ge (pe_ix ix_list (pv 0) pe_int (fun _ _ => rfl)) (pe_callB call_len_seq (by rfl) T.bLen PySem.boot_len (pa_cons (pe_ix ix_list (pv 0) pe_int (fun _ _ => rfl)) pa_nil)) (nomark _)))))
        (pss_cons (ps_asg (pe_op op_mod (pe_callTy call_int1 rfl T.bInt PySem.Pv.boot_int (pa_cons (pe_op op_add (pe_op op_mul (pe_ix ix_list (pv 0) pe_int (fun _ _ => rfl)) pe_int) pe_int) pa_nil)) pe_int) (pg_sub (pv 0) pe_int set_list))
          (pss_one (ps_ret (pe_op op_mod (pe_callTy call_int1 rfl T.bInt PySem.Pv.boot_int (pa_cons (pe_op op_fdiv (pe_ix ix_list (pv 0) pe_int (fun _ _ => rfl)) pe_int) pa_nil)) (pv 1))))) pss_nil) ht2, ?_⟩
    refine ⟨_, rfl, st, _, _, _, rfl, rfl, SqL.of e, rfl, rfl, _, rfl, ?_⟩
    refine ite2 (fun hz => ?_) (fun hz => ?_)
    · have hz : a = 0 := V.int.inj (of_decide_eq_true hz)
      refine ⟨_, rfl, st, _, _, _, rfl, rfl, SqL.of e, rfl, _, rfl, st, _, _, _, rfl, rfl, SqL.of e, rfl, sc, _, rfl, .inl (SqL.of S.hs), _, _, rfl, rfl, _, rfl, ?_⟩
      rw [ivs_len]
      refine ite2 (fun hy => ?_) (fun hy => ?_)
      · refine ⟨_, rfl, st, _, _, _, rfl, rfl, SqL.of e, rfl, _, _, rfl, rfl, .inr ⟨by decide, by decide⟩, _, _, rfl, rfl, .inl ⟨_, rfl, _, _, rfl, rfl, (by show (0 : Int) < 2147483629; decide), ?_⟩⟩
        refine ⟨_, rfl, st, _, _, 3, rfl, rfl, e, rfl, ?_⟩
        refine ⟨_, rfl, st, _, _, _, rfl, rfl, SqL.of upd_same, rfl, _, _, rfl, rfl, ⟨by decide, by decide⟩, .inl ⟨_, rfl, _, rfl, _, _, rfl, rfl, h0, ?_⟩⟩
        exact q _ _ (S.set hb) Only.upd (Int.emod_nonneg _ (by omega)) (Int.emod_lt_of_pos _ h0)
      · exact rd2 fun z => hy (decide_eq_true z.2)
    · exact rd2 fun z => hz (decide_eq_true (by rw [z.1]))
end
end Esc

/-! The law's model: new, begin. -/
namespace Esc
open PySem L2
section
variable {H H' : Hp} {F : Ft} {p o w l s a : Addr} {m : Mem} {ss : List Addr}
theorem ModelAt.fresh (M : ModelAt H F p m o w l s a ss) {q : Addr} (h : H q = none) : ∀ b, F b → b ≠ q := fun b f e => by
  obtain ⟨u, z⟩ := M.live b f
  rw [e, h] at z
  cases z
theorem ModelAt.addR (M : ModelAt H F p m o w l s a ss) {q : Addr} (hq : H q = none) (k : ∀ b u, H b = some u → b ≠ l → b ≠ s → b ≠ a → H' b = some u)
    (hl : H' l = some (.lst (m.regs.map (fun z => V.bl z.lives) ++ [.bl true]))) (hs : H' s = some (.lst (ss.map V.ref ++ [.ref q]))) (ha : H' a = some (.lst (ivs (m.regs.map (·.amt)) ++ [.int 0]))) (h2 : H' q = some (.lst [.int 0, .int 0])) :
    ModelAt H' (fun b => F b ∨ b = q) p (beginM m) o w l s a (ss ++ [q]) ∧ Ch F (fun b => F b ∨ b = q) H H' := by
  have n := M.ne
  have nq := M.fresh hq
  refine ⟨⟨k _ _ M.ob n.pl n.ps n.pa, k _ _ M.ho n.ol n.os n.oa, k _ _ M.hw n.wl n.ws n.wa, ?_, ?_, ?_, ?_, fun j x hx => ?_, ?_, fun b hb => ?_, ?_⟩, fun b u e nf => k b u e (fun z => nf (by rw [z]; exact M.fl)) (fun z => nf (by rw [z]; exact M.fs)) (fun z => nf (by rw [z]; exact M.fa)), ?_⟩
  · rw [hl]
    show _ = some (HO.lst ((m.regs ++ ([⟨true, 0, 0, 0⟩] : List Reg)).map _))
    rw [List.map_append]
    rfl
  · rw [hs, List.map_append]
    rfl
  · rw [ha]
    show _ = some (HO.lst (ivs ((m.regs ++ ([⟨true, 0, 0, 0⟩] : List Reg)).map _)))
    rw [List.map_append, ivs_app]
    rfl
  · show _ = (m.regs ++ _).length
    rw [List.length_append, List.length_append, M.len]
    rfl
  · show ∃ z, (m.regs ++ [⟨true, 0, 0, 0⟩] : List Reg)[j]? = some z ∧ _
    by_cases hj : j < ss.length
    · rw [List.getElem?_append_left hj] at hx
      obtain ⟨z, e, y⟩ := M.at_ j x hx
      obtain ⟨x1, x2, x3, x4, x5, x6⟩ := n.q x (List.mem_of_getElem? hx)
      exact ⟨z, by rw [List.getElem?_append_left (by rw [← M.len]; exact hj)]; exact e, k _ _ y x4.symm x5.symm x6.symm⟩
    · rw [List.getElem?_append_right (by omega)] at hx
      have hj0 : j - ss.length = 0 := by
        have := (List.getElem?_eq_some_iff.mp hx).1
        simp at this
        omega
      rw [hj0] at hx
      have e : q = x := Option.some.inj hx
      subst e
      exact ⟨⟨true, 0, 0, 0⟩, by rw [List.getElem?_append_right (by rw [← M.len]; omega), ← M.len, hj0]; rfl, h2⟩
  · have h := M.nd
    rw [← List.append_assoc, List.nodup_append]
    refine ⟨h, by simp, fun x hx b hb => ?_⟩
    have hb : b = q := by simpa using hb
    rw [hb]
    exact nq x (M.fin x hx)
  · rw [← List.append_assoc, List.mem_append] at hb
    rcases hb with hb | hb
    · exact .inl (M.fin b hb)
    · exact .inr (by simpa using hb)
  · rintro b (f | rfl)
    · obtain ⟨u, e⟩ := M.live b f
      by_cases q1 : b = l
      · exact ⟨_, by rw [q1]; exact hl⟩
      by_cases q2 : b = s
      · exact ⟨_, by rw [q2]; exact hs⟩
      by_cases q3 : b = a
      · exact ⟨_, by rw [q3]; exact ha⟩
      · exact ⟨u, k b u e q1 q2 q3⟩
    · exact ⟨_, h2⟩
  · rintro b (f | rfl)
    · exact .inl f
    · exact .inr hq
end
section
variable {P : Program} {w : World} {K : PySem.W.Frag} {mg : Str → Option Value} {base : Heap} {CS CR : Addr}
theorem scNw : FnScope [] [] (defScope lNew) := ⟨rfl, rfl, rfl, by decide +kernel, rfl, by decide +kernel, by decide +kernel⟩
theorem ok_new {f : Addr} {fd : FuncData} (F : Fun K "_law_new" "_law_new" lNew f fd) : FnOk P w K mg base CX0 1 f fd [] spNew := by
  refine F.ok scNw (fun vs H Q E h => ?_) (fun cdv A outer s H vs Q E hr h => ?_)
  · obtain ⟨rfl, _⟩ := h
    rfl
  · obtain ⟨rfl, q⟩ := h
    refine ⟨_, pss_one (ps_ret (pe_lst (pa_cons (pe_lst pa_nil) (pa_cons (pe_lst pa_nil) (pa_cons (pe_lst pa_nil) (pa_cons (pe_lst pa_nil) (pa_cons (pe_lst pa_nil) pa_nil))))))), ?_⟩
    refine ⟨by decide, fun o ho => ?_⟩
    refine ⟨by decide, fun w hw => ?_⟩
    refine ⟨by decide, fun l hl => ?_⟩
    refine ⟨by decide, fun s hs => ?_⟩
    refine ⟨by decide, fun a ha => ?_⟩
    refine ⟨by show 5 ≤ sizeLine; decide, fun p hp => ?_⟩
    have now : o ≠ w := ne_of_none upd_same hw
    have nol : o ≠ l := ne_of_none (same_new hw _ _ upd_same) hl
    have nwl : w ≠ l := ne_of_none upd_same hl
    have nos : o ≠ s := ne_of_none (same_new hl _ _ (same_new hw _ _ upd_same)) hs
    have nws : w ≠ s := ne_of_none (same_new hl _ _ upd_same) hs
    have nls : l ≠ s := ne_of_none upd_same hs
    have noa : o ≠ a := ne_of_none (same_new hs _ _ (same_new hl _ _ (same_new hw _ _ upd_same))) ha
    have nwa : w ≠ a := ne_of_none (same_new hs _ _ (same_new hl _ _ upd_same)) ha
    have nla : l ≠ a := ne_of_none (same_new hs _ _ upd_same) ha
    have nsa : s ≠ a := ne_of_none upd_same ha
    have eo : ∀ (x : HO), upd (upd (upd (upd (upd (upd H o (.lst [])) w (.lst [])) l (.lst [])) s (.lst [])) a (.lst [])) p x o = some (.lst []) := fun x => same_new hp _ _ (same_new ha _ _ (same_new hs _ _ (same_new hl _ _ (same_new hw _ _ upd_same))))
    have ew : ∀ (x : HO), upd (upd (upd (upd (upd (upd H o (.lst [])) w (.lst [])) l (.lst [])) s (.lst [])) a (.lst [])) p x w = some (.lst []) := fun x => same_new hp _ _ (same_new ha _ _ (same_new hs _ _ (same_new hl _ _ upd_same)))
    have el : ∀ (x : HO), upd (upd (upd (upd (upd (upd H o (.lst [])) w (.lst [])) l (.lst [])) s (.lst [])) a (.lst [])) p x l = some (.lst []) := fun x => same_new hp _ _ (same_new ha _ _ (same_new hs _ _ upd_same))
    have es : ∀ (x : HO), upd (upd (upd (upd (upd (upd H o (.lst [])) w (.lst [])) l (.lst [])) s (.lst [])) a (.lst [])) p x s = some (.lst []) := fun x => same_new hp _ _ (same_new ha _ _ upd_same)
    have ea : ∀ (x : HO), upd (upd (upd (upd (upd (upd H o (.lst [])) w (.lst [])) l (.lst [])) s (.lst [])) a (.lst [])) p x a = some (.lst []) := fun x => same_new hp _ _ upd_same
    have nop : o ≠ p := ne_of_none (same_new ha _ _ (same_new hs _ _ (same_new hl _ _ (same_new hw _ _ upd_same)))) hp
    have nwp : w ≠ p := ne_of_none (same_new ha _ _ (same_new hs _ _ (same_new hl _ _ upd_same))) hp
    have nlp : l ≠ p := ne_of_none (same_new ha _ _ (same_new hs _ _ upd_same)) hp
    have nsp : s ≠ p := ne_of_none (same_new ha _ _ upd_same) hp
    have nap : a ≠ p := ne_of_none upd_same hp
    have sm : Same H (upd (upd (upd (upd (upd H o (.lst [])) w (.lst [])) l (.lst [])) s (.lst [])) a (.lst [])) := ((((same_new ho).trans (same_new hw)).trans (same_new hl)).trans (same_new hs)).trans (same_new ha)
    have hw0 : H w = none := (same_new ho).free hw
    have hl0 : H l = none := ((same_new ho).trans (same_new hw)).free hl
    have hs0 : H s = none := (((same_new ho).trans (same_new hw)).trans (same_new hl)).free hs
    have ha0 : H a = none := ((((same_new ho).trans (same_new hw)).trans (same_new hl)).trans (same_new hs)).free ha
    have hp0 : H p = none := sm.free hp
    refine q _ (fun b => b = p ∨ b = o ∨ b = w ∨ b = l ∨ b = s ∨ b = a) p o w l s a ⟨upd_same, eo _, ew _, el _, es _, ea _, rfl, fun j x h => by simp at h, ?_, ?_, ?_⟩ (sm.trans (same_new hp)) ?_
    · simp [now, nol, nwl, nos, nws, nls, noa, nwa, nla, nsa, nop.symm, nwp.symm, nlp.symm, nsp.symm, nap.symm]
    · intro b hb
      simp at hb
      exact hb
    · rintro b (rfl | rfl | rfl | rfl | rfl | rfl)
      · exact ⟨_, upd_same⟩
      · exact ⟨_, eo _⟩
      · exact ⟨_, ew _⟩
      · exact ⟨_, el _⟩
      · exact ⟨_, es _⟩
      · exact ⟨_, ea _⟩
    · rintro b (rfl | rfl | rfl | rfl | rfl | rfl)
      · exact hp0
      · exact ho
      · exact hw0
      · exact hl0
      · exact hs0
      · exact ha0
theorem scLB : FnScope ["_law_model"] ["_law_model"] (defScope lBegin) := ⟨rfl, rfl, rfl, by decide +kernel, rfl, by decide +kernel, by decide +kernel⟩
theorem ok_lbegin {f : Addr} {fd : FuncData} (F : Fun K "_law_begin" "_law_begin" lBegin f fd) (T : Txt K mg CS CR) : FnOk P w K mg base CX0 1 f fd ["_law_model"] spLBegin := by
  refine F.ok scLB (fun vs H Q E h => ?_) (fun cdv A outer s H vs Q E hr h => ?_)
  · obtain ⟨p, F, m, o, w, l, s, a, ss, rfl, _⟩ := h
    rfl
  · obtain ⟨p, F, m, o, w, l, s, a, ss, rfl, M, hlen, q⟩ := h
    refine ⟨_, pss_cons (ps_expr (pe_bm PySem.F.plainAttrs_list PySem.F.slot_list_append PySem.F.type_list_append mt_append (pe_ix ix_list (pv 0) pe_int (fun _ _ => rfl)) (pa_cons pe_bl pa_nil)))
      (pss_cons (ps_expr (pe_bm PySem.F.plainAttrs_list PySem.F.slot_list_append PySem.F.type_list_append mt_append (pe_ix ix_list (pv 0) pe_int (fun _ _ => rfl)) (pa_cons (pe_lst (pa_cons pe_int (pa_cons pe_int pa_nil))) pa_nil)))
      (pss_cons (ps_expr (pe_bm PySem.F.plainAttrs_list PySem.F.slot_list_append PySem.F.type_list_append mt_append (pe_ix ix_list (pv 0) pe_int (fun _ _ => rfl)) (pa_cons pe_int pa_nil)))
      (pss_one (ps_ret (pe_op op_sub (pe_callB call_len_seq (by rfl) T.bLen PySem.boot_len (pa_cons (pe_ix ix_list (pv 0) pe_int (fun _ _ => rfl)) pa_nil)) pe_int))))), ?_⟩
    have n := M.ne
    have hl1 : ∀ k : Nat, k < 1000 → k < sizeLine := fun k h => Nat.lt_trans h (by decide)
    refine ⟨_, rfl, p, _, _, _, rfl, rfl, SqL.of M.ob, rfl, .inl ⟨rfl, _, SqL.of M.hl⟩, l, _, _, rfl, rfl, M.hl, (by rw [List.length_map]; exact hl1 _ hlen), ?_⟩
    have ob1 : ∀ x, upd H l x p = some (.lst [.ref o, .ref w, .ref l, .ref s, .ref a]) := fun x => by rw [upd_ne n.pl]; exact M.ob
    have hs1 : ∀ x, upd H l x s = some (.lst (ss.map V.ref)) := fun x => by rw [upd_ne n.ls.symm]; exact M.hs
    refine ⟨_, rfl, p, _, _, _, rfl, rfl, SqL.of (ob1 _), rfl, .inl ⟨rfl, _, SqL.of (hs1 _)⟩, (by show 2 ≤ sizeLine; decide), fun x hx => ?_⟩
    have hx0 : H x = none := by
      by_cases e : x = l
      · rw [e, upd_same] at hx
        cases hx
      · rw [upd_ne e] at hx
        exact hx
    have nx := M.fresh hx0
    refine ⟨s, _, _, rfl, rfl, (by rw [upd_ne (nx s M.fs)]; exact hs1 _), (by rw [List.length_map, M.len]; exact hl1 _ hlen), ?_⟩
    have ob2 : ∀ y z v, upd (upd (upd H l y) x z) s v p = some (.lst [.ref o, .ref w, .ref l, .ref s, .ref a]) := fun y z v => by rw [upd_ne n.ps, upd_ne (nx p M.fp)]; exact ob1 _
    have ha2 : ∀ y z v, upd (upd (upd H l y) x z) s v a = some (.lst (ivs (m.regs.map (·.amt)))) := fun y z v => by rw [upd_ne n.sa.symm, upd_ne (nx a M.fa), upd_ne n.la.symm]; exact M.ha
    refine ⟨_, rfl, p, _, _, _, rfl, rfl, SqL.of (ob2 _ _ _), rfl, .inl ⟨rfl, _, SqL.of (ha2 _ _ _)⟩, a, _, _, rfl, rfl, ha2 _ _ _, (by rw [ivs_len, List.length_map]; exact hl1 _ hlen), ?_⟩
    have R := M.addR (H' := upd (upd (upd (upd H l (.lst (m.regs.map (fun z => V.bl z.lives) ++ [.bl true]))) x (.lst [.int 0, .int 0])) s (.lst (ss.map V.ref ++ [.ref x]))) a (.lst (ivs (m.regs.map (·.amt)) ++ [.int 0]))) hx0
      (fun b u e b1 b2 b3 => by rw [upd_ne b3, upd_ne b2, upd_ne (ne_of_none e hx0), upd_ne b1]; exact e)
      (by rw [upd_ne n.la, upd_ne n.ls, upd_ne (nx l M.fl)]; exact upd_same) (by rw [upd_ne n.sa]; exact upd_same) upd_same
      (by rw [upd_ne (nx a M.fa).symm, upd_ne (nx s M.fs).symm]; exact upd_same)
    refine ⟨_, rfl, p, _, _, _, rfl, rfl, SqL.of R.1.ob, rfl, l, _, rfl, .inl (SqL.of R.1.hl), _, _, rfl, rfl, ?_⟩
    have e : (((beginM m).regs.map fun z => V.bl z.lives).length : Int) - 1 = m.regs.length := by
      rw [List.length_map, (begin_len m).2]
      omega
    have q2 := q _ _ x R.1 R.2
    rw [← e] at q2
    exact q2
end
end Esc

/-! The law's model: pages. -/
namespace Esc
open PySem L2
def spPg : Sp := fun vs H Q _ => ∃ p F m o w l s a ss, ∃ n : Nat, vs = [.ref p, .int n] ∧ ModelAt H F p m o w l s a ss ∧ 0 < n ∧ n ≤ 5 ∧ m.owners.length < 1000 ∧ m.words.length < 10000 ∧
  ∀ H', ModelAt H' F p { m with words := preW m n, owners := preO m n } o w l s a ss → Ch F F H H' → Q (.int (firstFree m.owners n)) H'
def spPF : Sp := fun vs H Q _ => ∃ p F m o w l s a ss, ∃ (n : Nat) (r : Int), vs = [.ref p, .int r, .int n] ∧ ModelAt H F p m o w l s a ss ∧ 0 < n ∧ n ≤ 5 ∧ m.owners.length < 1000 ∧ m.words.length < 10000 ∧
  ∀ H', ModelAt H' F p (takeM m n r) o w l s a ss → Ch F F H H' → Q (.int (8 * (firstFree m.owners n : Int))) H'
theorem least_is {p : Nat → Bool} : ∀ (k i L : Nat), (∀ j, i ≤ j → j < i + k → p j = false) → p (i + k) = true → k < L → least p i L = i + k
  | 0, i, L, _, h, hL => by
    obtain ⟨L, rfl⟩ : ∃ x, L = x + 1 := ⟨L - 1, by omega⟩
    exact least_now h
  | k + 1, i, L, hn, h, hL => by
    obtain ⟨L, rfl⟩ : ∃ x, L = x + 1 := ⟨L - 1, by omega⟩
    rw [least_skip (hn i (Nat.le_refl _) (by omega)), least_is k (i + 1) L (fun j a b => hn j (by omega) (by omega)) (by rw [show i + 1 + k = i + (k + 1) by omega]; exact h) (by omega)]
    omega
theorem rep_snoc (n : Nat) (v : V) : List.replicate n v ++ [v] = List.replicate (n + 1) v := by
  rw [List.replicate_succ']
theorem irep_snoc (n : Nat) (v : Int) : List.replicate n v ++ [v] = List.replicate (n + 1) v := by
  rw [List.replicate_succ']
section
variable {P : Program} {w : World} {K : PySem.W.Frag} {mg : Str → Option Value} {base : Heap} {CS CR : Addr}
def nPg : List Str := ["_law_model", "_law_many", "_law_owners", "_law_first", "_law_k", "_law_j"]
theorem scPS : FnScope nPg ["_law_model", "_law_many"] (defScope lPages) := ⟨rfl, rfl, rfl, by decide +kernel, rfl, by decide +kernel, by decide +kernel⟩
theorem ok_lpages {f : Addr} {fd : FuncData} (F : Fun K "_law_pages" "_law_pages" lPages f fd) (T : Txt K mg CS CR) : FnOk P w K mg base CX0 1 f fd ["_law_model", "_law_many"] spPg := by
  refine F.ok scPS (fun vs H Q E h => ?_) (fun cdv A outer s H vs Q E hr h => ?_)
  · obtain ⟨p, F, m, o, w, l, s, a, ss, n, rfl, _⟩ := h
    rfl
  · obtain ⟨p, F, m, o, w, l, s, a, ss, n, rfl, M, hn, hn5, hl, hlw, q⟩ := h
    have hsz : ∀ k : Nat, k ≤ 20000 → k ≤ sizeLine := fun k h => Nat.le_trans h (by decide)
    have hsz2 : ∀ k : Nat, k ≤ 20000 → k < sizeLine := fun k h => Nat.lt_of_le_of_lt h (by decide)
    refine ⟨_, pss_cons (ps_set (i := 2) scPS.nd rfl (Or.inl rfl) (pe_ix ix_list (pv 0) pe_int (fun _ _ => rfl)))
      (pss_cons (ps_for PassesOwn.never rfl (pi_range1 rfl T.bRange (pa_cons (pe_callB call_len_seq (by rfl) T.bLen PySem.boot_len (pa_cons (pv 2) pa_nil)) pa_nil)) (pg_name (i := 3) scPS.nd rfl (Or.inl rfl))
        (pss_one (ps_if (pt_cmpR (op_eqD hr.units) (pe_slice sl_list (pv 2) (po_some (pv 3)) (po_some (pe_op op_add (pv 3) (pv 1))))
          (pe_lc (own := [("_law_k", 4)]) (g := gName 4) (tt := tYes) rfl scPS.nd (pi_range1 rfl T.bRange (pa_cons (pv 1) pa_nil)) (blkOk_by (N := nPg) (sc := defScope lPages) (by decide +kernel)) (fun _ _ _ _ _ => pg_name (i := 4) scPS.nd rfl (Or.inl rfl)) (fun _ _ _ _ _ => pts_nil) (fun _ _ _ _ _ => pe_un un_neg pe_int)) (nomark _))
          (pss_one (ps_ret (pv 3))) pss_nil)))
      (pss_cons (ps_set (i := 3) scPS.nd rfl (Or.inl rfl) (pe_callB call_len_seq (by rfl) T.bLen PySem.boot_len (pa_cons (pv 2) pa_nil)))
      (pss_cons (ps_for PassesOwn.never rfl (pi_range1 rfl T.bRange (pa_cons (pv 1) pa_nil)) (pg_name (i := 4) scPS.nd rfl (Or.inl rfl))
        (pss_cons (ps_expr (pe_bm PySem.F.plainAttrs_list PySem.F.slot_list_append PySem.F.type_list_append mt_append (pv 2) (pa_cons (pe_un un_neg pe_int) pa_nil)))
        (pss_one (ps_expr (pe_bm PySem.F.plainAttrs_list PySem.F.slot_list_extend PySem.F.type_list_extend mt_extend (pe_ix ix_list (pv 0) pe_int (fun _ _ => rfl)) (pa_cons
          (pe_lc (own := [("_law_j", 5)]) (g := gName 5) (tt := tYes) rfl scPS.nd (pi_range1 rfl T.bRange (pa_cons pe_int pa_nil)) (blkOk_by (N := nPg) (sc := defScope lPages) (by decide +kernel)) (fun _ _ _ _ _ => pg_name (i := 5) scPS.nd rfl (Or.inl rfl)) (fun _ _ _ _ _ => pts_nil) (fun _ _ _ _ _ => pe_int)) pa_nil))))))
      (pss_one (ps_ret (pv 3)))))), ?_⟩
    refine ⟨_, rfl, p, _, _, _, rfl, rfl, SqL.of M.ob, rfl, ?_⟩
    refine ⟨_, rfl, o, _, rfl, .inl (SqL.of M.ho), _, rfl, by omega, by rw [ivs_len]; omega, ?_⟩
    rw [ivs_len, Int.toNat_natCast]
    refine for_range (fun k σ H' => ∃ v3, σ = [some (.ref p), some (.int n), some (.ref o), v3, none, none] ∧ Same H H' ∧ ∀ j, j < k → isFree m.owners n j = false) ⟨none, rfl, fun _ _ e => e, fun j h => absurd h (Nat.not_lt_zero j)⟩ ?_ ?_
    · rintro k σ H1 hk ⟨v3, rfl, s1, hno⟩
      have M1 := M.same s1
      refine ⟨_, rfl, _, rfl, _, rfl, _, rfl, _, rfl, _, _, rfl, rfl, _, rfl, o, _, rfl, SqL.of M1.ho, fun q1 hq1 => ?_⟩
      rw [Int.zero_add, cut_ivs _ _ _ (by omega)]
      refine ⟨_, rfl, _, rfl, by omega, by omega, fun D hD => ?_⟩
      have n1D : q1 ≠ D := ne_of_none upd_same hD
      refine lc_range (lo := 0) (n := (n : Int).toNat) (fun i H' => Same (upd H1 q1 (.lst (ivs ((m.owners.drop k).take n)))) H' ∧ H' D = some (.lst (List.replicate i (V.int (-1))))) ⟨same_new hD, upd_same⟩ ?_ ?_
      · rintro i H2 hi ⟨s2, h2⟩
        refine ⟨rfl, _, rfl, _, h2, ?_, fun b u e => ?_, ?_⟩
        · rw [List.length_replicate]
          exact hsz2 _ (by omega)
        · rw [upd_ne (ne_of_none e hD)]
          exact s2 b u e
        · rw [upd_same]
          exact congrArg (fun x => some (HO.lst x)) (rep_snoc _ _)
      · rintro H2 ⟨s2, h2⟩
        refine ⟨_, _, .lst (SqL.of (s2 _ _ upd_same)) (dps_ivs _), .lst (SqL.of (Eq.trans h2 (by rw [← ivs_rep, Int.toNat_natCast]))) (dps_ivs _), PySem.W.ke_shaped_ints _, PySem.W.ke_shaped_ints _, _, rfl, ?_⟩
        rw [eqv_ivs]
        have hs2 : Same H H2 := (s1.trans (same_new hq1)).trans s2
        refine ite2 (fun hc => ?_) (fun hc => ?_)
        · have hff : firstFree m.owners n = k := by
            unfold firstFree
            rw [least_is k 0 m.owners.length (fun j _ h => hno j (by omega)) (by rw [Nat.zero_add]; exact hc) hk]
            omega
          have q2 := q H2
          unfold preW preO at q2
          rw [hff, if_neg (by omega), if_neg (by omega)] at q2
          exact ⟨_, rfl, q2 (M.same hs2) (Ch.same hs2)⟩
        · refine ⟨_, rfl, hs2, fun j hj => ?_⟩
          by_cases e : j = k
          · rw [e]
            exact eq_false_of_ne_true hc
          · exact hno j (by omega)
    · rintro σ H1 ⟨v3, rfl, s1, hno⟩
      have M1 := M.same s1
      have hff : firstFree m.owners n = m.owners.length := by
        unfold firstFree
        rw [least_none _ _ (fun j _ h => hno j (by omega))]
        omega
      unfold preW preO at q
      rw [hff, if_pos rfl, if_pos rfl] at q
      refine ⟨_, rfl, o, _, rfl, .inl (SqL.of M1.ho), ?_⟩
      rw [ivs_len]
      refine ⟨_, rfl, _, rfl, by omega, by omega, ?_⟩
      rw [Int.toNat_natCast]
      refine for_range (fun k σ H' => ∃ v4, σ = [some (.ref p), some (.int n), some (.ref o), some (.int m.owners.length), v4, none] ∧ ModelAt H' F p { m with words := m.words ++ List.replicate (8 * k) 0, owners := m.owners ++ List.replicate k (-1) } o w l s a ss ∧ Ch F F H H')
        ⟨none, rfl, ?_, Ch.same s1⟩ ?_ ?_
      · simp only [Nat.mul_zero, List.replicate_zero, List.append_nil]
        exact M1
      · rintro k σ H2 hk ⟨v4, rfl, M2, c2⟩
        refine ⟨_, rfl, .inl ⟨rfl, _, SqL.of M2.ho⟩, _, rfl, o, _, _, rfl, rfl, M2.ho, (by rw [ivs_len, List.length_append, List.length_replicate]; exact hsz2 _ (by omega)), ?_⟩
        have M3 := M2.setO (m.owners ++ List.replicate (k + 1) (-1))
        have e3 : ivs (m.owners ++ List.replicate k (-1)) ++ [V.int (-1)] = ivs (m.owners ++ List.replicate (k + 1) (-1)) := by
          rw [← irep_snoc, ← List.append_assoc]
          exact (ivs_app _ [-1]).symm
        have c3 := c2.trans (Ch.upd (o := .lst (ivs (m.owners ++ List.replicate (k + 1) (-1)))) M2.fo)
        have e3' : ivs (m.owners ++ List.replicate k (-1)) ++ [V.int (-(1 : Int))] = ivs (m.owners ++ List.replicate (k + 1) (-1)) := e3
        simp only [e3']
        refine ⟨_, rfl, p, _, _, _, rfl, rfl, SqL.of M3.ob, rfl, .inl ⟨rfl, _, SqL.of M3.hw⟩, _, rfl, by decide, by decide, fun D hD => ?_⟩
        refine lc_range (lo := 0) (n := 8) (fun i H' => Same (upd H2 o (.lst (ivs (m.owners ++ List.replicate (k + 1) (-1))))) H' ∧ H' D = some (.lst (List.replicate i (V.int 0)))) ⟨same_new hD, upd_same⟩ ?_ ?_
        · rintro i H3 hi ⟨s3, h3⟩
          refine ⟨rfl, _, h3, ?_, fun b u e => ?_, ?_⟩
          · rw [List.length_replicate]
            exact hsz2 _ (by omega)
          · rw [upd_ne (ne_of_none e hD)]
            exact s3 b u e
          · rw [upd_same]
            exact congrArg (fun x => some (HO.lst x)) (rep_snoc _ _)
        · rintro H3 ⟨s3, h3⟩
          have M4 := M3.same s3
          refine ⟨w, D, _, _, rfl, rfl, M4.hw, h3, ?_, ?_⟩
          · rw [ivs_len, List.length_replicate, List.length_append, List.length_replicate]
            exact hsz _ (by omega)
          have M5 := M4.setW (m.words ++ List.replicate (8 * (k + 1)) 0)
          have e5 : ivs (m.words ++ List.replicate (8 * k) 0) ++ List.replicate 8 (V.int 0) = ivs (m.words ++ List.replicate (8 * (k + 1)) 0) := by
            rw [← ivs_rep, ← ivs_app, List.append_assoc, List.replicate_append_replicate]
            rfl
          rw [e5]
          exact ⟨_, rfl, M5, (c3.trans (Ch.same s3)).trans (Ch.upd M4.fw)⟩
      · rintro σ H2 ⟨v4, rfl, M2, c2⟩
        exact ⟨_, rfl, q H2 M2 c2⟩
theorem scPF : FnScope ["_law_model", "_law_region_here", "_law_many", "_law_first", "_law_k"] ["_law_model", "_law_region_here", "_law_many"] (defScope lPagesFor) := ⟨rfl, rfl, rfl, by decide +kernel, rfl, by decide +kernel, by decide +kernel⟩
theorem ok_lpf {f : Addr} {fd : FuncData} (F : Fun K "_law_pages_for" "_law_pages_for" lPagesFor f fd) (T : Txt K mg CS CR) (cP : C8.Cal P w K mg base 1 "_law_pages" spPg []) : FnOk P w K mg base CX0 2 f fd ["_law_model", "_law_region_here", "_law_many"] spPF := by
  refine F.ok scPF (fun vs H Q E h => ?_) (fun cdv A outer s H vs Q E hr h => ?_)
  · obtain ⟨p, F, m, o, w, l, s, a, ss, n, r, rfl, _⟩ := h
    rfl
  · obtain ⟨p, F, m, o, w, l, s, a, ss, n, r, rfl, M, hn, hn5, hl, hlw, q⟩ := h
    refine ⟨_, pss_cons (ps_set (i := 3) scPF.nd rfl (Or.inl rfl) (C8.pe_c cP hr (by decide) rfl (pa_cons (pv 0) (pa_cons (pv 2) pa_nil))))
      (pss_cons (ps_for PassesOwn.never rfl (pi_range1 rfl T.bRange (pa_cons (pv 2) pa_nil)) (pg_name (i := 4) scPF.nd rfl (Or.inl rfl))
        (pss_one (ps_asg (pv 1) (pg_sub (pe_ix ix_list (pv 0) pe_int (fun _ _ => rfl)) (pe_op op_add (pv 3) (pv 4)) set_list))))
      (pss_one (ps_ret (pe_op op_mul pe_int (pv 3))))), ?_⟩
    have hff := firstFree_le m.owners n
    have hfit := preO_fits (m := m) hn
    have hpl := preO_len (m := m) hn
    refine ⟨_, rfl, _, rfl, p, F, m, o, w, l, s, a, ss, n, rfl, M, hn, hn5, hl, hlw, fun H1 M1 c1 => ?_⟩
    refine ⟨_, rfl, _, rfl, by omega, by omega, ?_⟩
    rw [Int.toNat_natCast]
    refine for_range (fun k σ H' => ∃ v4, σ = [some (.ref p), some (.int r), some (.int n), some (.int (firstFree m.owners n : Nat)), v4] ∧ ModelAt H' F p { m with words := preW m n, owners := fill (preO m n) (firstFree m.owners n) k r } o w l s a ss ∧ Ch F F H H') ⟨none, rfl, ?_, c1⟩ ?_ ?_
    · rw [fill_zero]
      exact M1
    · rintro k σ H2 hk ⟨v4, rfl, M2, c2⟩
      refine ⟨_, rfl, _, rfl, p, _, _, _, rfl, rfl, SqL.of M2.ob, rfl, _, rfl, _, rfl, _, _, rfl, rfl, o, _, _, firstFree m.owners n + k, rfl, rfl, M2.ho, ?_, ?_⟩
      · rw [ivs_len, Int.zero_add]
        have := ixn_nat (n := (fill (preO m n) (firstFree m.owners n) k r).length) (i := firstFree m.owners n + k) (by rw [fill_length (by omega)]; omega)
        rw [← this]
        rfl
      · rw [ivs_set, fill_succ (by omega)]
        exact ⟨_, rfl, M2.setO _, c2.trans (Ch.upd M2.fo)⟩
    · rintro σ H2 ⟨v4, rfl, M2, c2⟩
      exact ⟨_, rfl, _, _, rfl, rfl, .inl ⟨by decide, by decide⟩, q H2 M2 c2⟩
end
end Esc

/-! The law's model: cell, end. -/
namespace Esc
open PySem L2
def spLCell : Sp := fun vs H Q _ => ∃ p F m o w l s a ss, ∃ (j : Nat) (k : Int) (z : Reg), vs = [.ref p, .int j, .int k] ∧ ModelAt H F p m o w l s a ss ∧ Wf m ∧ m.owners.length ≤ 500 ∧ 1 ≤ k ∧ k ≤ 40 ∧ m.regs[j]? = some z ∧
  ∀ H', ModelAt H' F p (cellM m j z k).2 o w l s a ss → Ch F F H H' → Q (.int (cellM m j z k).1) H'
def spLEnd : Sp := fun vs H Q _ => ∃ p F m o w l s a ss, ∃ (j : Nat) (z : Reg), vs = [.ref p, .int j] ∧ ModelAt H F p m o w l s a ss ∧ Wf m ∧ m.owners.length ≤ 500 ∧ m.regs[j]? = some z ∧
  ∀ H', ModelAt H' F p (endM m j z) o w l s a ss → Ch F F H H' → Q .non H'
theorem map_nth {α β : Type} {l : List α} {i : Nat} {x : α} (f : α → β) (h : l[i]? = some x) : (l.map f)[i]? = some (f x) := by
  rw [List.getElem?_map, h]
  rfl
theorem wf_regs {m : Mem} (w : Wf m) {j : Nat} {z : Reg} (h : m.regs[j]? = some z) (x : Int) : Wf { m with regs := m.regs.set j { z with amt := x } } := wf_setReg w (w.reg j z h)
section
variable {P : Program} {wd : World} {K : PySem.W.Frag} {mg : Str → Option Value} {base : Heap} {CS CR : Addr}
def nLC : List Str := ["_law_model", "_law_region_here", "_law_words", "_law_spot", "_law_row", "_law_address_here"]
theorem scLC : FnScope nLC ["_law_model", "_law_region_here", "_law_words"] (defScope lCell) := ⟨rfl, rfl, rfl, by decide +kernel, rfl, by decide +kernel, by decide +kernel⟩
theorem ok_lcell {f : Addr} {fd : FuncData} (F : Fun K "_law_cell" "_law_cell" lCell f fd) (T : Txt K mg CS CR) (cP : C8.Cal P wd K mg base 2 "_law_pages_for" spPF []) : FnOk P wd K mg base CX0 3 f fd ["_law_model", "_law_region_here", "_law_words"] spLCell := by
  refine F.ok scLC (fun vs H Q E h => ?_) (fun cdv A outer sh H vs Q E hr h => ?_)
  · obtain ⟨p, F, m, o, w, l, s, a, ss, j, k, z, rfl, _⟩ := h
    rfl
  · obtain ⟨p, F, m, o, w, l, s, a, ss, j, k, z, rfl, M, wf, hl, hk1, hk40, hz, q⟩ := h
    have hj : j < m.regs.length := (List.getElem?_eq_some_iff.mp hz).1
    obtain ⟨qa, hqa, hq⟩ := M.spot hz
    have hwl := wf.len
    obtain ⟨tt, htt, rd⟩ : ∃ t, PSs (cxOf CX0 P wd K mg base nLC "_law_cell" (defScope lCell) f cdv A outer sh H E).nox ((defBody lCell).drop 4) t ∧
        ∀ (H2 : Hp) (m2 : Mem) (z2 : Reg), ModelAt H2 F p m2 o w l s a ss → m2.regs[j]? = some z2 → 0 ≤ z2.place → z2.place + k ≤ m2.words.length → m2.words.length ≤ 10000 → Ch F F H H2 →
          (∀ H', ModelAt H' F p { m2 with words := fill m2.words z2.place.toNat k.toNat 0, regs := m2.regs.set j { z2 with place := z2.place + k, room := z2.room - k } } o w l s a ss → Ch F F H H' → Q (.int z2.place) H') →
          t { nx := fun _ H' => Q .non H', rt := Q } [some (.ref p), some (.int j), some (.int k), some (.ref qa), none, none] H2 := by
      refine ⟨_, pss_cons (ps_asg (pe_op op_add (pe_ix ix_list (pv 3) pe_int (fun _ _ => rfl)) (pv 2)) (pg_sub (pv 3) pe_int set_list))
        (pss_cons (ps_asg (pe_op op_sub (pe_ix ix_list (pv 3) pe_int (fun _ _ => rfl)) (pv 2)) (pg_sub (pv 3) pe_int set_list))
        (pss_cons (ps_set (i := 4) scLC.nd rfl (Or.inl rfl) (pe_ix ix_list (pv 0) pe_int (fun _ _ => rfl)))
        (pss_cons (ps_for PassesOwn.never rfl (pi_range2 rfl T.bRange (pa_cons (pe_op op_sub (pe_ix ix_list (pv 3) pe_int (fun _ _ => rfl)) (pv 2)) (pa_cons (pe_ix ix_list (pv 3) pe_int (fun _ _ => rfl)) pa_nil))) (pg_name (i := 5) scLC.nd rfl (Or.inl rfl))
          (pss_one (ps_asg pe_int (pg_sub (pv 4) (pv 5) set_list))))
        (pss_one (ps_ret (pe_op op_sub (pe_ix ix_list (pv 3) pe_int (fun _ _ => rfl)) (pv 2))))))), ?_⟩
      intro H2 m2 z2 M2 hz2 h0 hfit hsz c2 fin
      have hj2 : j < m2.regs.length := (List.getElem?_eq_some_iff.mp hz2).1
      have eqa : ∀ (Hx : Hp) (mx : Mem) (zx : Reg), ModelAt Hx F p mx o w l s a ss → mx.regs[j]? = some zx → Hx qa = some (.lst [.int zx.place, .int zx.room]) := fun Hx mx zx Mx e => by
        obtain ⟨y, ey, h⟩ := Mx.at_ j qa hqa
        rw [e] at ey
        cases ey
        exact h
      have hq2 := eqa _ _ _ M2 hz2
      refine ⟨_, rfl, qa, _, _, _, rfl, rfl, SqL.of hq2, rfl, _, rfl, _, _, rfl, rfl, _, rfl, qa, _, _, 0, rfl, rfl, hq2, rfl, ?_⟩
      have M3 := M2.setS hz2 hqa (z2.place + k) z2.room
      have hz3 : ({ m2 with regs := m2.regs.set j { z2 with place := z2.place + k, room := z2.room } } : Mem).regs[j]? = some { z2 with place := z2.place + k, room := z2.room } := List.getElem?_set_self hj2
      have hfq : F qa := M2.fq (List.mem_of_getElem? hqa)
      refine ⟨_, rfl, qa, _, _, _, rfl, rfl, SqL.of upd_same, rfl, _, rfl, _, _, rfl, rfl, _, rfl, qa, _, _, 1, rfl, rfl, upd_same, rfl, ?_⟩
      have M4 := M3.setS hz3 hqa (z2.place + k) (z2.room - k)
      have c4 := (c2.trans (Ch.upd (o := .lst [.int (z2.place + k), .int z2.room]) hfq)).trans (Ch.upd (o := .lst [.int (z2.place + k), .int (z2.room - k)]) hfq)
      have es : (m2.regs.set j { z2 with place := z2.place + k, room := z2.room }).set j { lives := z2.lives, amt := z2.amt, place := z2.place + k, room := z2.room - k } = m2.regs.set j { z2 with place := z2.place + k, room := z2.room - k } := List.set_set ..
      have M4 : ModelAt (upd (upd H2 qa (.lst [.int (z2.place + k), .int z2.room])) qa (.lst [.int (z2.place + k), .int (z2.room - k)])) F p { m2 with regs := m2.regs.set j { z2 with place := z2.place + k, room := z2.room - k } } o w l s a ss := by
        rw [← es]
        exact M4
      refine ⟨_, rfl, p, _, _, _, rfl, rfl, SqL.of M4.ob, rfl, ?_⟩
      refine ⟨_, rfl, qa, _, _, _, rfl, rfl, SqL.of upd_same, rfl, _, rfl, _, _, rfl, rfl, _, rfl, qa, _, _, _, rfl, rfl, SqL.of upd_same, rfl, _, _, rfl, ⟨by omega, by omega, by omega, by omega⟩, ?_⟩
      have eK : (z2.place + k - (z2.place + k - k)).toNat = k.toNat := by omega
      have eL : z2.place + k - k = z2.place := by omega
      rw [eK, eL]
      refine for_range (fun i σ H' => ∃ v5, σ = [some (.ref p), some (.int j), some (.int k), some (.ref qa), some (.ref w), v5] ∧ ModelAt H' F p { m2 with words := fill m2.words z2.place.toNat i 0, regs := m2.regs.set j { z2 with place := z2.place + k, room := z2.room - k } } o w l s a ss ∧ Ch F F H H')
        ⟨none, rfl, by rw [fill_zero]; exact M4, c4⟩ ?_ ?_
      · rintro i σ H3 hi ⟨v5, rfl, M5, c5⟩
        refine ⟨_, rfl, _, rfl, w, _, _, z2.place.toNat + i, rfl, rfl, M5.hw, ?_, ?_⟩
        · rw [ivs_len]
          have := ixn_nat (n := (fill m2.words z2.place.toNat i 0).length) (i := z2.place.toNat + i) (by rw [fill_length (by omega)]; omega)
          rw [← this]
          congr 1
          omega
        · rw [ivs_set, fill_succ (by omega)]
          exact ⟨_, rfl, M5.setW _, c5.trans (Ch.upd M5.fw)⟩
      · rintro σ H3 ⟨v5, rfl, M5, c5⟩
        have hq5 := eqa _ _ { z2 with place := z2.place + k, room := z2.room - k } M5 (List.getElem?_set_self hj2)
        refine ⟨_, rfl, qa, _, _, _, rfl, rfl, SqL.of hq5, rfl, _, rfl, _, _, rfl, rfl, ?_⟩
        have q3 := fin H3 M5 c5
        rw [← eL] at q3
        exact q3
    refine ⟨_, pss_cons (ps_set (i := 3) scLC.nd rfl (Or.inl rfl) (pe_ix ix_list (pe_ix ix_list (pv 0) pe_int (fun _ _ => rfl)) (pv 1) (fun _ _ => rfl)))
      (pss_cons (ps_asg (pe_op op_add (pe_ix ix_list (pe_ix ix_list (pv 0) pe_int (fun _ _ => rfl)) (pv 1) (fun _ _ => rfl)) (pv 2)) (pg_sub (pe_ix ix_list (pv 0) pe_int (fun _ _ => rfl)) (pv 1) set_list))
      (pss_cons (ps_if (pt_cmpR op_gt (pv 2) pe_int (nomark _)) (pss_one (ps_ret (C8.pe_c cP hr (by decide) rfl (pa_cons (pv 0) (pa_cons (pv 1) (pa_cons (pe_op op_fdiv (pe_op op_add (pv 2) pe_int) pe_int) pa_nil)))))) pss_nil)
      (pss_cons (ps_if (pt_cmpR op_lt (pe_ix ix_list (pv 3) pe_int (fun _ _ => rfl)) (pv 2) (nomark _))
        (pss_cons (ps_asg (C8.pe_c cP hr (by decide) rfl (pa_cons (pv 0) (pa_cons (pv 1) (pa_cons pe_int pa_nil)))) (pg_sub (pv 3) pe_int set_list)) (pss_one (ps_asg pe_int (pg_sub (pv 3) pe_int set_list)))) pss_nil) htt))), ?_⟩
    refine ⟨_, rfl, p, _, _, _, rfl, rfl, SqL.of M.ob, rfl, _, rfl, s, _, _, _, rfl, rfl, SqL.of M.hs, at_of (j := j) (v := V.ref qa) rfl (map_nth _ hqa), ?_⟩
    refine ⟨_, rfl, p, _, _, _, rfl, rfl, SqL.of M.ob, rfl, _, rfl, a, _, _, _, rfl, rfl, SqL.of M.ha, ivs_nth (map_nth _ hz) rfl, _, rfl, _, _, rfl, rfl, _, rfl, p, _, _, _, rfl, rfl, SqL.of M.ob, rfl, _, rfl, a, _, _, j, rfl, rfl, M.ha, by rw [ivs_len, List.length_map]; exact ixn_nat hj, ?_⟩
    have M1 := M.setA hz (z.amt + k)
    have c1 : Ch F F H (upd H a (.lst ((ivs (m.regs.map (·.amt))).set j (.int (z.amt + k))))) := Ch.upd M.fa
    have wf1 := wf_regs wf hz (z.amt + k)
    have hz1 : ({ m with regs := m.regs.set j { z with amt := z.amt + k } } : Mem).regs[j]? = some { z with amt := z.amt + k } := List.getElem?_set_self hj
    refine ⟨_, rfl, _, _, rfl, rfl, _, rfl, ?_⟩
    unfold cellM at q
    refine ite2 (fun h8 => ?_) (fun h8 => ?_)
    · have h8 : k > 8 := of_decide_eq_true h8
      rw [if_pos h8] at q
      obtain ⟨n, hn⟩ : ∃ n : Nat, (k + 7) / 8 = (n : Int) := ⟨((k + 7) / 8).toNat, by omega⟩
      rw [hn, Int.toNat_natCast] at q
      refine ⟨_, rfl, _, rfl, _, rfl, _, _, rfl, rfl, _, _, rfl, rfl, ⟨by decide, by decide⟩, p, F, _, o, w, l, s, a, ss, n, (j : Int), by rw [← hn]; rfl, M1, by omega, by omega, ?_, ?_, fun H2 M2 c2 => q H2 M2 (c1.trans c2)⟩
      · show m.owners.length < 1000
        omega
      · show m.words.length < 10000
        omega
    · have h8 : ¬ k > 8 := fun z => h8 (decide_eq_true z)
      rw [if_neg h8] at q
      obtain ⟨p0, r0, r8, pr⟩ := wf.reg j z hz
      have hq1 : upd H a (.lst ((ivs (m.regs.map (·.amt))).set j (.int (z.amt + k)))) qa = some (.lst [.int z.place, .int z.room]) := by
        rw [upd_ne (M.ne.q qa (List.mem_of_getElem? hqa)).2.2.2.2.2.symm]
        exact hq
      refine ⟨_, rfl, qa, _, _, _, rfl, rfl, SqL.of hq1, rfl, _, rfl, _, _, rfl, rfl, _, rfl, ?_⟩
      refine ite2 (fun hr8 => ?_) (fun hr8 => ?_)
      · have hr8 : z.room < k := of_decide_eq_true hr8
        rw [if_pos hr8] at q
        refine ⟨_, rfl, _, rfl, p, F, _, o, w, l, s, a, ss, 1, (j : Int), rfl, M1, by omega, by omega, ?_, ?_, fun H2 M2 c2 => ?_⟩
        · show m.owners.length < 1000
          omega
        · show m.words.length < 10000
          omega
        have hff := firstFree_le m.owners 1
        have wt := wf_take (n := 1) (r := (j : Int)) wf (by omega) (by omega) (by omega)
        have hrm := take_room (n := 1) (r := (j : Int)) wf (by omega)
        have htl := take_len (m := m) (n := 1) (r := (j : Int)) (by omega)
        have hwt := wt.len
        have hfq : F qa := M.fq (List.mem_of_getElem? hqa)
        have hq2 : H2 qa = some (.lst [.int z.place, .int z.room]) := by
          obtain ⟨y, ey, h⟩ := M2.at_ j qa hqa
          have ey : ({ m with regs := m.regs.set j { z with amt := z.amt + k } } : Mem).regs[j]? = some y := ey
          rw [hz1] at ey
          cases ey
          exact h
        refine ⟨_, rfl, qa, _, _, 0, rfl, rfl, hq2, rfl, ?_⟩
        refine ⟨_, rfl, qa, _, _, 1, rfl, rfl, upd_same, rfl, ?_⟩
        have e2 : upd (upd H2 qa (.lst ([V.int z.place, .int z.room].set 0 (.int (8 * (firstFree m.owners 1 : Int)))))) qa (.lst (([V.int z.place, .int z.room].set 0 (.int (8 * (firstFree m.owners 1 : Int)))).set 1 (.int 8))) = upd H2 qa (.lst [.int (8 * (firstFree m.owners 1 : Int)), .int 8]) := upd_upd
        have M3 := M2.setS hz1 hqa (8 * (firstFree m.owners 1 : Int)) 8
        have c3 := (c1.trans c2).trans (Ch.upd (o := .lst [.int (8 * (firstFree m.owners 1 : Int)), .int 8]) hfq)
        rw [← e2] at M3 c3
        refine rd _ _ { z with amt := z.amt + k, place := 8 * (firstFree m.owners 1 : Int), room := 8 } M3 (List.getElem?_set_self (by show j < (m.regs.set j _).length; rw [List.length_set]; exact hj)) ?_ ?_ ?_ c3 fun H' M' c' => ?_
        · show 0 ≤ 8 * (firstFree m.owners 1 : Int)
          omega
        · show 8 * (firstFree m.owners 1 : Int) + k ≤ ((takeM m 1 ↑j).words.length : Int)
          omega
        · show (takeM m 1 ↑j).words.length ≤ 10000
          omega
        · refine q H' ?_ c'
          have es : ((m.regs.set j { z with amt := z.amt + k }).set j { z with amt := z.amt + k, place := 8 * (firstFree m.owners 1 : Int), room := 8 }).set j { lives := z.lives, amt := z.amt + k, place := 8 * (firstFree m.owners 1 : Int) + k, room := 8 - k } = m.regs.set j { lives := z.lives, amt := z.amt + k, place := 8 * (firstFree m.owners 1 : Int) + k, room := 8 - k } := by
            rw [List.set_set, List.set_set]
          have M2 : ModelAt H' F p { words := fill (takeM m 1 ↑j).words (8 * (firstFree m.owners 1 : Int)).toNat k.toNat 0, owners := (takeM m 1 ↑j).owners, regs := ((m.regs.set j { z with amt := z.amt + k }).set j { z with amt := z.amt + k, place := 8 * (firstFree m.owners 1 : Int), room := 8 }).set j { lives := z.lives, amt := z.amt + k, place := 8 * (firstFree m.owners 1 : Int) + k, room := 8 - k } } o w l s a ss := M'
          rw [es] at M2
          exact M2
      · have hr8 : ¬ z.room < k := fun z => hr8 (decide_eq_true z)
        rw [if_neg hr8] at q
        refine rd _ _ { z with amt := z.amt + k } M1 hz1 p0 ?_ ?_ c1 fun H' M' c' => ?_
        · show z.place + k ≤ (m.words.length : Int)
          omega
        · show m.words.length ≤ 10000
          omega
        · refine q H' ?_ c'
          have es : (m.regs.set j { z with amt := z.amt + k }).set j { lives := z.lives, amt := z.amt + k, place := z.place + k, room := z.room - k } = m.regs.set j { lives := z.lives, amt := z.amt + k, place := z.place + k, room := z.room - k } := List.set_set ..
          have M2 : ModelAt H' F p { words := fill m.words z.place.toNat k.toNat 0, owners := m.owners, regs := (m.regs.set j { z with amt := z.amt + k }).set j { lives := z.lives, amt := z.amt + k, place := z.place + k, room := z.room - k } } o w l s a ss := M'
          rw [es] at M2
          exact M2
def nLE : List Str := ["_law_model", "_law_region_here", "_law_page", "_law_k"]
theorem scLE : FnScope nLE ["_law_model", "_law_region_here"] (defScope lEnd) := ⟨rfl, rfl, rfl, by decide +kernel, rfl, by decide +kernel, by decide +kernel⟩
theorem ok_lend {f : Addr} {fd : FuncData} (F : Fun K "_law_end" "_law_end" lEnd f fd) (T : Txt K mg CS CR) : FnOk P wd K mg base CX0 1 f fd ["_law_model", "_law_region_here"] spLEnd := by
  refine F.ok scLE (fun vs H Q E h => ?_) (fun cdv A outer sh H vs Q E hr h => ?_)
  · obtain ⟨p, F, m, o, w, l, s, a, ss, j, z, rfl, _⟩ := h
    rfl
  · obtain ⟨p, F, m, o, w, l, s, a, ss, j, z, rfl, M, wf, hl, hz, q⟩ := h
    have hj : j < m.regs.length := (List.getElem?_eq_some_iff.mp hz).1
    have hwl := wf.len
    refine ⟨_, pss_cons (ps_asg pe_bl (pg_sub (pe_ix ix_list (pv 0) pe_int (fun _ _ => rfl)) (pv 1) set_list))
      (pss_one (ps_for PassesOwn.never rfl (pi_range1 rfl T.bRange (pa_cons (pe_callB call_len_seq (by rfl) T.bLen PySem.boot_len (pa_cons (pe_ix ix_list (pv 0) pe_int (fun _ _ => rfl)) pa_nil)) pa_nil)) (pg_name (i := 2) scLE.nd rfl (Or.inl rfl))
        (pss_one (ps_if (pt_cmpR op_eq (pe_ix ix_list (pe_ix ix_list (pv 0) pe_int (fun _ _ => rfl)) (pv 2) (fun _ _ => rfl)) (pv 1) (nomark _))
          (pss_cons (ps_asg (pe_un un_neg pe_int) (pg_sub (pe_ix ix_list (pv 0) pe_int (fun _ _ => rfl)) (pv 2) set_list))
          (pss_one (ps_for PassesOwn.never rfl (pi_range1 rfl T.bRange (pa_cons pe_int pa_nil)) (pg_name (i := 3) scLE.nd rfl (Or.inl rfl))
            (pss_one (ps_asg pe_int (pg_sub (pe_ix ix_list (pv 0) pe_int (fun _ _ => rfl)) (pe_op op_add (pe_op op_mul pe_int (pv 2)) (pv 3)) set_list)))))) pss_nil)))), ?_⟩
    refine ⟨_, rfl, p, _, _, _, rfl, rfl, SqL.of M.ob, rfl, _, rfl, l, _, _, j, rfl, rfl, M.hl, by rw [List.length_map]; exact ixn_nat hj, ?_⟩
    have M1 := M.setL hz false
    have c1 : Ch F F H (upd H l (.lst ((m.regs.map fun z => V.bl z.lives).set j (.bl false)))) := Ch.upd M.fl
    refine ⟨_, rfl, p, _, _, _, rfl, rfl, SqL.of M1.ob, rfl, o, _, rfl, .inl (SqL.of M1.ho), _, rfl, by omega, by rw [ivs_len]; show (m.owners.length : Int) < _; omega, ?_⟩
    rw [ivs_len, Int.toNat_natCast]
    refine for_range (fun k σ H' => ∃ v2 v3, σ = [some (.ref p), some (.int j), v2, v3] ∧ ModelAt H' F p { words := endW m.owners j m.words k, owners := endO m.owners j k, regs := m.regs.set j { z with lives := false } } o w l s a ss ∧ Ch F F H H') ⟨none, none, rfl, M1, c1⟩ ?_ ?_
    · rintro k σ H2 hk ⟨v2, v3, rfl, M2, c2⟩
      have hk : k < m.owners.length := hk
      have eo : (endO m.owners j k)[k]? = m.owners[k]? := by
        rw [endO_get, if_neg (Nat.lt_irrefl _)]
      refine ⟨_, rfl, p, _, _, _, rfl, rfl, SqL.of M2.ob, rfl, _, rfl, o, _, _, _, rfl, rfl, SqL.of M2.ho, ivs_nth (Eq.trans eo (List.getElem?_eq_getElem hk)) (Int.zero_add _), _, rfl, rfl, _, rfl, ?_⟩
      refine ite2 (fun he => ?_) (fun he => ?_)
      · have ey : m.owners[k]? = some (j : Int) := by
          rw [List.getElem?_eq_getElem hk]
          exact congrArg some (V.int.inj (of_decide_eq_true he))
        refine ⟨_, rfl, _, rfl, p, _, _, _, rfl, rfl, SqL.of M2.ob, rfl, _, rfl, o, _, _, k, rfl, rfl, M2.ho, ?_, ?_⟩
        · rw [ivs_len, endO_len, Int.zero_add]
          exact ixn_nat hk
        rw [ivs_set, endO_hit ey]
        have M3 := M2.setO (endO m.owners j (k + 1))
        have c3 := c2.trans (Ch.upd (o := .lst (ivs (endO m.owners j (k + 1)))) M2.fo)
        have ewl : (endW m.owners j m.words k).length = m.words.length := endW_len (by omega)
        refine ⟨_, rfl, by decide, by decide, ?_⟩
        refine for_range (n := 8) (fun i σ H' => ∃ v3, σ = [some (.ref p), some (.int j), some (.int (0 + (k : Nat))), v3] ∧ ModelAt H' F p { words := fill (endW m.owners j m.words k) (8 * k) i 0, owners := endO m.owners j (k + 1), regs := m.regs.set j { z with lives := false } } o w l s a ss ∧ Ch F F H H') ⟨v3, rfl, by rw [fill_zero]; exact M3, c3⟩ ?_ ?_
        · rintro i σ H3 hi ⟨v3', rfl, M4, c4⟩
          refine ⟨_, rfl, p, _, _, _, rfl, rfl, SqL.of M4.ob, rfl, _, rfl, _, _, rfl, rfl, .inl ⟨by decide, by decide⟩, _, rfl, _, _, rfl, rfl, w, _, _, 8 * k + i, rfl, rfl, M4.hw, ?_, ?_⟩
          · rw [ivs_len]
            have := ixn_nat (n := (fill (endW m.owners j m.words k) (8 * k) i 0).length) (i := 8 * k + i) (by rw [fill_length (by rw [ewl]; omega), ewl]; omega)
            rw [← this]
            congr 1
            omega
          · rw [ivs_set, fill_succ (by rw [ewl]; omega)]
            exact ⟨_, rfl, M4.setW _, c4.trans (Ch.upd M4.fw)⟩
        · rintro σ H3 ⟨v3', rfl, M4, c4⟩
          refine ⟨_, _, rfl, ?_, c4⟩
          rw [endW_hit ey]
          exact M4
      · have ey : ¬ m.owners[k]? = some (j : Int) := fun e => he (decide_eq_true (by rw [List.getElem?_eq_getElem hk] at e; exact congrArg V.int (Option.some.inj e)))
        refine ⟨_, _, rfl, ?_, c2⟩
        rw [endW_miss ey, endO_miss ey]
        exact M2
    · rintro σ H2 ⟨v2, v3, rfl, M2, c2⟩
      exact q H2 M2 c2
end
end Esc

/-! The law's readers. -/
namespace Esc
open PySem L2
def spLOwner : Sp := fun vs H Q _ => ∃ p F m o w l s a ss x, vs = [.ref p, .int x] ∧ ModelAt H F p m o w l s a ss ∧ Wf m ∧ m.words.length < 10000 ∧ Q (.int (ownerM m x)) H
def spLRead : Sp := fun vs H Q _ => ∃ p F m o w l s a ss x, vs = [.ref p, .int x] ∧ ModelAt H F p m o w l s a ss ∧ Wf m ∧ m.words.length < 10000 ∧ Q (.int (readM m x)) H
def spLWrite : Sp := fun vs H Q _ => ∃ p F m o w l s a ss x v, vs = [.ref p, .int x, .int v] ∧ ModelAt H F p m o w l s a ss ∧ Wf m ∧ m.words.length < 10000 ∧
  ∀ H', ModelAt H' F p (writeM m x v) o w l s a ss → Ch F F H H' → Q .non H'
def spLOpen : Sp := fun vs H Q _ => ∃ p F m o w l s a ss x, vs = [.ref p, .int x] ∧ ModelAt H F p m o w l s a ss ∧ Q (.bl (openM m x)) H
def spLHeld : Sp := fun vs H Q _ => ∃ p F m o w l s a ss, vs = [.ref p] ∧ ModelAt H F p m o w l s a ss ∧ m.regs.length < 1000 ∧ ∀ H', Same H H' → Q (.int (heldM m)) H'
def spLRegion : Sp := fun vs H Q _ => ∃ st sc, ∃ ns : List Int, ∃ p F m o w l s a ss, vs = [.ref st, .ref p] ∧ StateAt H st sc ns ∧ ModelAt H F p m o w l s a ss ∧ m.regs.length < 1000 ∧
  ∀ H' (v : Int), StateAt H' st sc ns → Only st H H' → -1 ≤ v → v ≤ m.regs.length → Q (.int v) H'
def spLAddress : Sp := fun vs H Q _ => ∃ st sc, ∃ ns : List Int, ∃ p F m o w l s a ss kn, ∃ ks : List Int, vs = [.ref st, .ref p, .ref kn] ∧ StateAt H st sc ns ∧ ModelAt H F p m o w l s a ss ∧ ¬ F st ∧ H kn = some (.lst (ivs ks)) ∧ kn ≠ st ∧ ks.length < 1000 ∧ m.words.length < 10000 ∧
  ∀ H' (v : Int), StateAt H' st sc ns → Only st H H' → Q (.int v) H'
theorem held_sum (l : List Reg) : ((l.filter (·.lives)).map (·.amt)).sum = (l.map fun z => if z.lives then z.amt else 0).sum := by
  induction l with
  | nil => rfl
  | cons z l ih =>
    rw [List.filter_cons, List.map_cons, List.sum_cons]
    by_cases h : z.lives = true
    · rw [if_pos h, if_pos h, List.map_cons, List.sum_cons, ih]
    · rw [if_neg h, if_neg h, ih]
      omega
theorem filter_take_yes {l : List Reg} {i : Nat} {z : Reg} (h : l[i]? = some z) (hz : z.lives = true) : (l.take (i + 1)).filter (·.lives) = (l.take i).filter (·.lives) ++ [z] := by
  rw [List.take_add_one, h, List.filter_append]
  congr 1
  simp [hz]
theorem filter_take_no {l : List Reg} {i : Nat} {z : Reg} (h : l[i]? = some z) (hz : ¬ z.lives = true) : (l.take (i + 1)).filter (·.lives) = (l.take i).filter (·.lives) := by
  rw [List.take_add_one, h, List.filter_append]
  simp [hz]
section
variable {P : Program} {wd : World} {K : PySem.W.Frag} {mg : Str → Option Value} {base : Heap} {CS CR : Addr}
theorem scLO : FnScope ["_law_model", "_law_address_here"] ["_law_model", "_law_address_here"] (defScope lOwner) := ⟨rfl, rfl, rfl, by decide +kernel, rfl, by decide +kernel, by decide +kernel⟩
theorem ok_lowner {f : Addr} {fd : FuncData} (F : Fun K "_law_owner" "_law_owner" lOwner f fd) (T : Txt K mg CS CR) : FnOk P wd K mg base CX0 1 f fd ["_law_model", "_law_address_here"] spLOwner := by
  refine F.ok scLO (fun vs H Q E h => ?_) (fun cdv A outer sh H vs Q E hr h => ?_)
  · obtain ⟨p, F, m, o, w, l, s, a, ss, x, rfl, _⟩ := h
    rfl
  · obtain ⟨p, F, m, o, w, l, s, a, ss, x, rfl, M, wf, hl, q⟩ := h
    refine ⟨_, pss_cons (ps_if (PW.pt (pw_or (pt_cmpR op_lt (pv 1) pe_int (nomark _)) (pw_or1 (pt_cmpR op_ge (pv 1) (pe_callB call_len_seq (by rfl) T.bLen PySem.boot_len (pa_cons (pe_ix ix_list (pv 0) pe_int (fun _ _ => rfl)) pa_nil)) (nomark _)))))
      (pss_one (ps_ret (pe_un un_neg pe_int))) pss_nil)
      (pss_one (ps_ret (pe_ix ix_list (pe_ix ix_list (pv 0) pe_int (fun _ _ => rfl)) (pe_op op_fdiv (pv 1) pe_int) (fun _ _ => rfl)))), ?_⟩
    refine ⟨_, rfl, _, _, rfl, rfl, _, rfl, ?_⟩
    refine ite2 (fun h0 => ?_) (fun h0 => ?_)
    · have h0 := of_decide_eq_true h0
      rw [owner_out (by omega)] at q
      exact ⟨_, rfl, q⟩
    · have h0 : ¬ x < 0 := fun z => h0 (decide_eq_true z)
      refine ⟨_, rfl, _, rfl, p, _, _, _, rfl, rfl, SqL.of M.ob, rfl, w, _, rfl, .inl (SqL.of M.hw), _, _, rfl, rfl, _, rfl, ?_⟩
      rw [ivs_len]
      refine ite2 (fun h1 => ?_) (fun h1 => ?_)
      · have h1 := of_decide_eq_true h1
        rw [owner_out (by omega)] at q
        exact ⟨_, rfl, q⟩
      · have h1 : ¬ (m.words.length : Int) ≤ x := fun z => h1 (decide_eq_true z)
        obtain ⟨z, e1, e2⟩ := owner_in wf (a := x) (by omega) (by omega)
        rw [e2] at q
        exact ⟨_, rfl, p, _, _, _, rfl, rfl, SqL.of M.ob, rfl, _, rfl, _, _, rfl, rfl, ⟨by decide, by decide⟩, o, _, _, _, rfl, rfl, SqL.of M.ho, ivs_nth e1 (by omega), q⟩
theorem scLR : FnScope ["_law_model", "_law_address_here"] ["_law_model", "_law_address_here"] (defScope lRead) := ⟨rfl, rfl, rfl, by decide +kernel, rfl, by decide +kernel, by decide +kernel⟩
theorem ok_lread {f : Addr} {fd : FuncData} (F : Fun K "_law_read" "_law_read" lRead f fd) (T : Txt K mg CS CR) (cO : C8.Cal P wd K mg base 1 "_law_owner" spLOwner []) : FnOk P wd K mg base CX0 2 f fd ["_law_model", "_law_address_here"] spLRead := by
  refine F.ok scLR (fun vs H Q E h => ?_) (fun cdv A outer sh H vs Q E hr h => ?_)
  · obtain ⟨p, F, m, o, w, l, s, a, ss, x, rfl, _⟩ := h
    rfl
  · obtain ⟨p, F, m, o, w, l, s, a, ss, x, rfl, M, wf, hl, q⟩ := h
    refine ⟨_, pss_cons (ps_if (pt_cmpR op_lt (C8.pe_c cO hr (by decide) rfl (pa_cons (pv 0) (pa_cons (pv 1) pa_nil))) pe_int (nomark _)) (pss_one (ps_ret pe_int)) pss_nil)
      (pss_one (ps_ret (pe_ix ix_list (pe_ix ix_list (pv 0) pe_int (fun _ _ => rfl)) (pv 1) (fun _ _ => rfl)))), ?_⟩
    refine ⟨_, rfl, _, rfl, p, F, m, o, w, l, s, a, ss, x, rfl, M, wf, hl, _, _, rfl, rfl, _, rfl, ?_⟩
    refine ite2 (fun h0 => ?_) (fun h0 => ?_)
    · have h0 := of_decide_eq_true h0
      unfold readM at q
      rw [if_pos h0] at q
      exact q
    · have h0 : ¬ ownerM m x < 0 := fun z => h0 (decide_eq_true z)
      obtain ⟨e1, e2⟩ := read_in wf h0
      exact ⟨_, rfl, p, _, _, _, rfl, rfl, SqL.of M.ob, rfl, _, rfl, w, _, _, _, rfl, rfl, SqL.of M.hw, ivs_nth e1 (by omega), q⟩
theorem scLW : FnScope ["_law_model", "_law_address_here", "_law_word"] ["_law_model", "_law_address_here", "_law_word"] (defScope lWrite) := ⟨rfl, rfl, rfl, by decide +kernel, rfl, by decide +kernel, by decide +kernel⟩
theorem ok_lwrite {f : Addr} {fd : FuncData} (F : Fun K "_law_write" "_law_write" lWrite f fd) (T : Txt K mg CS CR) (cO : C8.Cal P wd K mg base 1 "_law_owner" spLOwner []) : FnOk P wd K mg base CX0 2 f fd ["_law_model", "_law_address_here", "_law_word"] spLWrite := by
  refine F.ok scLW (fun vs H Q E h => ?_) (fun cdv A outer sh H vs Q E hr h => ?_)
  · obtain ⟨p, F, m, o, w, l, s, a, ss, x, v, rfl, _⟩ := h
    rfl
  · obtain ⟨p, F, m, o, w, l, s, a, ss, x, v, rfl, M, wf, hl, q⟩ := h
    refine ⟨_, pss_one (ps_if (pt_cmpR op_ge (C8.pe_c cO hr (by decide) rfl (pa_cons (pv 0) (pa_cons (pv 1) pa_nil))) pe_int (nomark _)) (pss_one (ps_asg (pv 2) (pg_sub (pe_ix ix_list (pv 0) pe_int (fun _ _ => rfl)) (pv 1) set_list))) pss_nil), ?_⟩
    refine ⟨_, rfl, _, rfl, p, F, m, o, w, l, s, a, ss, x, rfl, M, wf, hl, _, _, rfl, rfl, _, rfl, ?_⟩
    unfold writeM at q
    refine ite2 (fun h0 => ?_) (fun h0 => ?_)
    · have h0 : 0 ≤ ownerM m x := of_decide_eq_true h0
      rw [if_pos h0] at q
      obtain ⟨a0, a1, _⟩ := owner_has wf h0
      refine ⟨_, rfl, _, rfl, p, _, _, _, rfl, rfl, SqL.of M.ob, rfl, _, rfl, w, _, _, x.toNat, rfl, rfl, M.hw, ?_, ?_⟩
      · rw [ivs_len]
        unfold ixN
        rw [if_pos a0, if_pos a1]
      · rw [ivs_set]
        exact q _ (M.setW _) (Ch.upd M.fw)
    · have h0 : ¬ 0 ≤ ownerM m x := fun z => h0 (decide_eq_true z)
      rw [if_neg h0] at q
      exact q _ M (Ch.refl _ _)
theorem scLOp : FnScope ["_law_model", "_law_region_here"] ["_law_model", "_law_region_here"] (defScope lOpen) := ⟨rfl, rfl, rfl, by decide +kernel, rfl, by decide +kernel, by decide +kernel⟩
theorem ok_lregion {f : Addr} {fd : FuncData} (F : Fun K "_law_region" "_law_region" lRegion f fd) (T : Txt K mg CS CR) (cD : C8.Cal P wd K mg base 1 "_law_draw" spDraw []) : FnOk P wd K mg base CX0 2 f fd ["_law_state", "_law_model"] spLRegion := by
  have scRg : FnScope ["_law_state", "_law_model"] ["_law_state", "_law_model"] (defScope lRegion) := ⟨rfl, rfl, rfl, by decide +kernel, rfl, by decide +kernel, by decide +kernel⟩
  refine F.ok scRg (fun vs H Q E h => ?_) (fun cdv A outer sh H vs Q E hr h => ?_)
  · obtain ⟨st, sc, ns, p, F, m, o, w, l, s, a, ss, rfl, _⟩ := h
    rfl
  · obtain ⟨st, sc, ns, p, F, m, o, w, l, s, a, ss, rfl, S, M, hl, q⟩ := h
    refine ⟨_, pss_one (ps_ret (pe_op op_sub (C8.pe_c cD hr (by decide) rfl (pa_cons (pv 0) (pa_cons (pe_op op_add (pe_callB call_len_seq (by rfl) T.bLen PySem.boot_len (pa_cons (pe_ix ix_list (pv 1) pe_int (fun _ _ => rfl)) pa_nil)) pe_int) pa_nil))) pe_int)), ?_⟩
    refine ⟨_, rfl, _, rfl, p, _, _, _, rfl, rfl, SqL.of M.ob, rfl, l, _, rfl, .inl (SqL.of M.hl), _, _, rfl, rfl, st, sc, ns, _, rfl, S, by omega, by rw [List.length_map]; omega, fun H' v S' o' h0 h1 => ?_⟩
    rw [List.length_map] at h1
    exact ⟨_, _, rfl, rfl, q H' _ S' o' (by omega) (by omega)⟩
theorem scAd : FnScope ["_law_state", "_law_model", "_law_known", "_law_choice"] ["_law_state", "_law_model", "_law_known"] (defScope lAddress) := ⟨rfl, rfl, rfl, by decide +kernel, rfl, by decide +kernel, by decide +kernel⟩
theorem ok_laddress {f : Addr} {fd : FuncData} (F : Fun K "_law_address" "_law_address" lAddress f fd) (T : Txt K mg CS CR) (cD : C8.Cal P wd K mg base 1 "_law_draw" spDraw []) : FnOk P wd K mg base CX0 2 f fd ["_law_state", "_law_model", "_law_known"] spLAddress := by
  refine F.ok scAd (fun vs H Q E h => ?_) (fun cdv A outer sh H vs Q E hr h => ?_)
  · obtain ⟨st, sc, ns, p, F, m, o, w, l, s, a, ss, kn, ks, rfl, _⟩ := h
    rfl
  · obtain ⟨st, sc, ns, p, F, m, o, w, l, s, a, ss, kn, ks, rfl, S, M, nst, hk, nk, hkl, hwl, q⟩ := h
    have mv : ∀ H1, Only st H H1 → H1 kn = some (.lst (ivs ks)) ∧ ModelAt H1 F p m o w l s a ss := fun H1 o1 => ⟨by rw [o1 _ nk]; exact hk, M.mono fun b u f e => by rw [o1 b (fun z => nst (by rw [← z]; exact f))]; exact e⟩
    obtain ⟨t2, ht2, rd2⟩ : ∃ t, PSs (cxOf CX0 P wd K mg base ["_law_state", "_law_model", "_law_known", "_law_choice"] "_law_address" (defScope lAddress) f cdv A outer sh H E).nox ((defBody lAddress).drop 2) t ∧
        ∀ H1 (v : Int), StateAt H1 st sc ns → Only st H H1 → t { nx := fun _ H' => Q .non H', rt := Q } [some (.ref st), some (.ref p), some (.ref kn), some (.int v)] H1 := by
      refine ⟨_, pss_cons (ps_if (pt_cmpR op_eq (pv 3) pe_int (nomark _)) (pss_one (ps_ret (pe_op op_sub (pe_op op_sub pe_int pe_int) (C8.pe_c cD hr (by decide) rfl (pa_cons (pv 0) (pa_cons pe_int pa_nil)))))) pss_nil)
        (pss_one (ps_ret (C8.pe_c cD hr (by decide) rfl (pa_cons (pv 0) (pa_cons (pe_op op_add (pe_callB call_len_seq (by rfl) T.bLen PySem.boot_len (pa_cons (pe_ix ix_list (pv 1) pe_int (fun _ _ => rfl)) pa_nil)) pe_int) pa_nil))))), ?_⟩
      intro H1 v S1 o1
      obtain ⟨hk1, M1⟩ := mv H1 o1
      refine ⟨_, rfl, rfl, _, rfl, ?_⟩
      refine ite2 (fun _ => ?_) (fun _ => ?_)
      · refine ⟨_, _, rfl, rfl, _, rfl, st, sc, ns, _, rfl, S1, by decide, by decide, fun H2 v2 S2 o2 g0 g1 => ?_⟩
        exact ⟨_, _, rfl, rfl, q H2 _ S2 (o1.trans o2)⟩
      · refine ⟨_, rfl, _, rfl, p, _, _, _, rfl, rfl, SqL.of M1.ob, rfl, w, _, rfl, .inl (SqL.of M1.hw), _, _, rfl, rfl, st, sc, ns, _, rfl, S1, by omega, by rw [ivs_len]; omega, fun H2 v2 S2 o2 g0 g1 => ?_⟩
        exact q H2 _ S2 (o1.trans o2)
    refine ⟨_, pss_cons (ps_set (i := 3) scAd.nd rfl (Or.inl rfl) (C8.pe_c cD hr (by decide) rfl (pa_cons (pv 0) (pa_cons pe_int pa_nil))))
      (pss_cons (ps_if (PW.pt (pw_and (pt_cmpR op_lt (pv 3) pe_int (nomark _)) (pw_and1 (pt_truth (pv 2) (by intro _; rfl)))))
        (pss_one (ps_ret (pe_op op_add (pe_ix ix_list (pv 2) (C8.pe_c cD hr (by decide) rfl (pa_cons (pv 0) (pa_cons (pe_callB call_len_seq (by rfl) T.bLen PySem.boot_len (pa_cons (pv 2) pa_nil)) pa_nil))) (fun _ _ => rfl)) (C8.pe_c cD hr (by decide) rfl (pa_cons (pv 0) (pa_cons pe_int pa_nil)))))) pss_nil) ht2), ?_⟩
    refine ⟨_, rfl, st, sc, ns, _, rfl, S, by decide, by decide, fun H1 v S1 o1 h0 h1 => ?_⟩
    obtain ⟨hk1, M1⟩ := mv H1 o1
    refine ⟨_, rfl, _, _, rfl, rfl, _, rfl, ?_⟩
    refine ite2 (fun _ => ?_) (fun _ => ?_)
    · refine ⟨_, rfl, _, .inl ⟨_, SqL.of hk1, rfl⟩, ?_⟩
      refine ite2 (fun hne => ?_) (fun _ => ?_)
      · have hkp : 0 < ks.length := by
          cases ks with
          | nil => cases hne
          | cons x r => exact Nat.succ_pos _
        refine ⟨_, rfl, _, rfl, _, rfl, kn, _, rfl, .inl (SqL.of hk1), st, sc, ns, _, rfl, S1, by rw [ivs_len]; omega, by rw [ivs_len]; omega, fun H2 v2 S2 o2 g0 g1 => ?_⟩
        rw [ivs_len] at g1
        obtain ⟨hk2, M2⟩ := mv H2 (o1.trans o2)
        have hv2 : v2.toNat < ks.length := by omega
        refine ⟨kn, _, _, _, rfl, rfl, SqL.of hk2, ivs_nth (List.getElem?_eq_getElem hv2) (by omega), ?_⟩
        refine ⟨_, rfl, st, sc, ns, _, rfl, S2, by decide, by decide, fun H3 v3 S3 o3 e0 e1 => ?_⟩
        exact ⟨_, _, rfl, rfl, q H3 _ S3 ((o1.trans o2).trans o3)⟩
      · exact rd2 H1 v S1 o1
    · exact rd2 H1 v S1 o1
theorem ok_lopen {f : Addr} {fd : FuncData} (F : Fun K "_law_open" "_law_open" lOpen f fd) (T : Txt K mg CS CR) : FnOk P wd K mg base CX0 1 f fd ["_law_model", "_law_region_here"] spLOpen := by
  refine F.ok scLOp (fun vs H Q E h => ?_) (fun cdv A outer sh H vs Q E hr h => ?_)
  · obtain ⟨p, F, m, o, w, l, s, a, ss, x, rfl, _⟩ := h
    rfl
  · obtain ⟨p, F, m, o, w, l, s, a, ss, x, rfl, M, q⟩ := h
    refine ⟨_, pss_one (ps_ret (pe_and (pe_cmpR op_ge (pv 1) pe_int (nomark _)) (pe_and (pe_cmpR op_lt (pv 1) (pe_callB call_len_seq (by rfl) T.bLen PySem.boot_len (pa_cons (pe_ix ix_list (pv 0) pe_int (fun _ _ => rfl)) pa_nil)) (nomark _))
      (pe_one (pe_ix ix_list (pe_ix ix_list (pv 0) pe_int (fun _ _ => rfl)) (pv 1) (fun _ _ => rfl)))))), ?_⟩
    unfold openM at q
    refine ⟨_, rfl, _, _, rfl, rfl, _, rfl, ?_⟩
    refine ite2 (fun h0 => ?_) (fun h0 => ?_)
    · have h0 : 0 ≤ x := of_decide_eq_true h0
      refine ⟨_, rfl, _, rfl, p, _, _, _, rfl, rfl, SqL.of M.ob, rfl, l, _, rfl, .inl (SqL.of M.hl), _, _, rfl, rfl, _, rfl, ?_⟩
      rw [List.length_map]
      refine ite2 (fun h1 => ?_) (fun h1 => ?_)
      · have h1 : x < m.regs.length := of_decide_eq_true h1
        have hn : x.toNat < m.regs.length := by omega
        rw [decide_eq_true (⟨h0, h1⟩ : 0 ≤ x ∧ x < (m.regs.length : Int)), Bool.true_and, List.getElem?_eq_getElem hn] at q
        exact ⟨_, rfl, p, _, _, _, rfl, rfl, SqL.of M.ob, rfl, _, rfl, l, _, _, _, rfl, rfl, SqL.of M.hl, at_of (j := x.toNat) (by omega) (map_nth _ (List.getElem?_eq_getElem hn)), q⟩
      · have h1 : ¬ x < m.regs.length := fun z => h1 (decide_eq_true z)
        rw [decide_eq_false (fun z : 0 ≤ x ∧ x < (m.regs.length : Int) => h1 z.2), Bool.false_and] at q
        exact q
    · have h0 : ¬ 0 ≤ x := fun z => h0 (decide_eq_true z)
      rw [decide_eq_false (fun z : 0 ≤ x ∧ x < (m.regs.length : Int) => h0 z.1), Bool.false_and] at q
      exact q
theorem scLH : FnScope ["_law_model", "_law_k"] ["_law_model"] (defScope lHeld) := ⟨rfl, rfl, rfl, by decide +kernel, rfl, by decide +kernel, by decide +kernel⟩
theorem ok_lheld {f : Addr} {fd : FuncData} (F : Fun K "_law_held" "_law_held" lHeld f fd) (T : Txt K mg CS CR) : FnOk P wd K mg base CX0 1 f fd ["_law_model"] spLHeld := by
  refine F.ok scLH (fun vs H Q E h => ?_) (fun cdv A outer sh H vs Q E hr h => ?_)
  · obtain ⟨p, F, m, o, w, l, s, a, ss, rfl, _⟩ := h
    rfl
  · obtain ⟨p, F, m, o, w, l, s, a, ss, rfl, M, hl, q⟩ := h
    refine ⟨_, pss_one (ps_ret (pe_callB (cr_sum rfl) (by rfl) T.bSum (by decide +kernel) (pa_cons (pe_lc (own := [("_law_k", 1)]) (g := gName 1) (tt := tB (tOp (rIxL K) (tOp (rIxL K) (tVar 0) (tC (.int 2))) (tVar 1))) (te := tOp (rIxL K) (tOp (rIxL K) (tVar 0) (tC (.int 4))) (tVar 1)) rfl scLH.nd
      (pi_range1 rfl T.bRange (pa_cons (pe_callB call_len_seq (by rfl) T.bLen PySem.boot_len (pa_cons (pe_ix ix_list (pv 0) pe_int (fun _ _ => rfl)) pa_nil)) pa_nil)) (blkOk_by (N := ["_law_model", "_law_k"]) (sc := defScope lHeld) (by decide +kernel)) (fun _ _ _ _ _ => pg_name (i := 1) scLH.nd rfl (Or.inl rfl))
      (fun _ _ _ _ _ => pts_one (pt_val (pe_ix ix_list (pe_ix ix_list (pv 0) pe_int (fun _ _ => rfl)) (pv 1) (fun _ _ => rfl)))) (fun _ _ _ _ _ => pe_ix ix_list (pe_ix ix_list (pv 0) pe_int (fun _ _ => rfl)) (pv 1) (fun _ _ => rfl))) pa_nil))), ?_⟩
    refine ⟨_, rfl, p, _, _, _, rfl, rfl, SqL.of M.ob, rfl, l, _, rfl, .inl (SqL.of M.hl), _, rfl, by omega, by rw [List.length_map]; omega, fun D hD => ?_⟩
    rw [List.length_map, Int.toNat_natCast]
    refine lc_range (lo := 0) (n := m.regs.length) (fun i H' => Same H H' ∧ H' D = some (.lst (ivs (((m.regs.take i).filter (·.lives)).map (·.amt))))) ⟨same_new hD, upd_same⟩ ?_ ?_
    · rintro i H1 hi ⟨s1, h1⟩
      have ez := List.getElem?_eq_getElem hi
      refine ⟨rfl, _, rfl, p, _, _, _, rfl, rfl, SqL.of (s1 _ _ M.ob), rfl, _, rfl, l, _, _, _, rfl, rfl, SqL.of (s1 _ _ M.hl), at_of (j := i) (by omega) (map_nth _ ez), _, rfl, ?_⟩
      refine ite2 (fun hv => ?_) (fun hv => ?_)
      · refine ⟨_, rfl, p, _, _, _, rfl, rfl, SqL.of (s1 _ _ M.ob), rfl, _, rfl, a, _, _, _, rfl, rfl, SqL.of (s1 _ _ M.ha), at_of (j := i) (by omega) (ivs_get (map_nth _ ez)), _, h1, ?_, fun b u eb => ?_, ?_⟩
        · rw [ivs_len, List.length_map]
          exact Nat.lt_of_le_of_lt (Nat.le_trans (List.length_filter_le _ _) (by rw [List.length_take]; exact Nat.min_le_right _ _)) (Nat.lt_trans hl (by decide))
        · rw [upd_ne (ne_of_none eb hD)]
          exact s1 b u eb
        · rw [upd_same, filter_take_yes ez hv, List.map_append, ivs_app]
          rfl
      · refine ⟨s1, ?_⟩
        rw [filter_take_no ez hv]
        exact h1
    · rintro H1 ⟨s1, h1⟩
      rw [List.take_length] at h1
      have q1 := q H1 s1
      unfold heldM at q1
      rw [← held_sum] at q1
      exact ⟨D, _, rfl, SqL.of h1, q1⟩
end
end Esc

/-! The norm; len, in, list of a store by its methods; _law_same. -/
namespace Esc
open PySem L2 EscR GenW
/-! ### the norm -/
theorem norm_regs (m : Mem) : (norm m).regs = m.regs.map nz := rfl
theorem norm_get {m : Mem} {j : Nat} {z : Reg} (h : m.regs[j]? = some z) : (norm m).regs[j]? = some (nz z) := map_nth _ h
theorem nz_live {z : Reg} (h : z.lives = true) : nz z = z := by
  unfold nz
  rw [if_pos h]
theorem norm_len (m : Mem) : (norm m).regs.length = m.regs.length := List.length_map ..
theorem wf_norm {m : Mem} (w : Wf m) : Wf (norm m) :=
  ⟨w.len, fun i o h => by rw [norm_len]; exact w.own i o h, w.zero, fun i z h => by
    rw [norm_regs, List.getElem?_map] at h
    cases e : m.regs[i]? with
    | none =>
      rw [e] at h
      cases h
    | some y =>
      rw [e] at h
      have h := Option.some.inj h
      subst h
      exact w.reg i y e⟩
theorem open_norm (m : Mem) (r : Int) : openM (norm m) r = openM m r := by
  unfold openM
  rw [norm_len, norm_regs, List.getElem?_map]
  cases m.regs[r.toNat]? <;> rfl
theorem norm_begin (m : Mem) : norm (beginM m) = beginM (norm m) := by
  unfold norm beginM
  simp only [List.map_append]
  rfl
theorem norm_write (m : Mem) (a v : Int) : norm (writeM m a v) = writeM (norm m) a v := by
  unfold writeM
  have e : ownerM (norm m) a = ownerM m a := rfl
  rw [e]
  by_cases h : 0 ≤ ownerM m a
  · rw [if_pos h, if_pos h]
    rfl
  · rw [if_neg h, if_neg h]
theorem norm_live (m : Mem) : liveM (norm m) = liveM m := by
  unfold liveM
  rw [norm_len]
  congr 2
  funext i
  rw [norm_regs, List.getElem?_map]
  cases m.regs[i]? <;> rfl
theorem norm_end (m : Mem) (j : Nat) (z : Reg) : norm (endM m j z) = endP (norm m) j (nz z) := by
  unfold norm endP endM
  simp only [List.map_set]
  rfl
theorem norm_cell (m : Mem) (j : Nat) (z : Reg) (k : Int) (h : z.lives = true) : cellM (norm m) j z k = ((cellM m j z k).1, norm (cellM m j z k).2) := by
  have hs : ∀ (y : Reg), y.lives = true → (m.regs.set j y).map nz = (m.regs.map nz).set j y := fun y hy => by rw [List.map_set, nz_live hy]
  unfold cellM
  by_cases h8 : k > 8
  · rw [if_pos h8, if_pos h8]
    refine Prod.ext rfl ?_
    show ({ words := _, owners := _, regs := (m.regs.map nz).set j _ } : Mem) = { words := _, owners := _, regs := (m.regs.set j _).map nz }
    rw [hs]
    all_goals first | exact h | rfl
  · rw [if_neg h8, if_neg h8]
    by_cases hr : z.room < k
    · rw [if_pos hr, if_pos hr]
      refine Prod.ext rfl ?_
      show ({ words := _, owners := _, regs := (m.regs.map nz).set j _ } : Mem) = { words := _, owners := _, regs := (m.regs.set j _).map nz }
      rw [hs]
      all_goals first | exact h | rfl
    · rw [if_neg hr, if_neg hr]
      refine Prod.ext rfl ?_
      show ({ words := _, owners := _, regs := (m.regs.map nz).set j _ } : Mem) = { words := _, owners := _, regs := (m.regs.set j _).map nz }
      rw [hs]
      all_goals first | exact h | rfl
theorem waits {m : Mem} (w : Wf m) : (m.owners.filter fun o => decide (o < 0)).length = m.owners.count (-1) := by
  rw [List.count, List.countP_eq_length_filter]
  congr 1
  refine List.filter_congr fun o ho => ?_
  obtain ⟨i, hi⟩ := List.getElem?_of_mem ho
  rcases w.own i o hi with e | ⟨e, _⟩
  · rw [e]
    rfl
  · rw [decide_eq_false (by omega)]
    have : o ≠ -1 := by omega
    exact (beq_eq_false_iff_ne.mpr this).symm
/-! ### by its methods -/
structure Prp (P : Program) (w : World) (K : PySem.W.Frag) (mg : Str → Option Value) (base : Heap) (k : Nat) (C : Addr) (f : Str) (sp : Sp) : Prop where
  ex : ∃ (p g : Addr) (fd : FuncData), Cls K C ∧ PropOf K C f p g ∧ FnOk P w K mg base CX0 k g fd ["self"] sp ∧ Binds K fd ["self"] []
section
variable {X : Cx} {k j : Nat} {C : Addr} {f : Str} {sp spI : Sp} {e : Expr} {pos : Pos} {ta : TE}
theorem pe_pr (c : Prp X.prog X.w X.K X.mg X.base k C f sp) (hr : Room j X.A) (hk : k + 1 ≤ j) (he : PE X e ta) (hab : attributeBase e f X.env (eval e X.env) = eval e X.env) : PE X (.Attribute e f pos) (tProp C sp [] C8.E0 ta) := by
  obtain ⟨p, g, fd, hc, hp, F, b⟩ := c.ex
  exact pe_prop he hc hp F (hr.mono hk) b .nil C8.pass0 hab
theorem vals_nil {ds : List Value} (h : Vals [] ds) : ds = [] := by
  cases h
  rfl
theorem call_lenM (c : C8.Met X.prog X.w X.K X.mg X.base k C "__len__" sp []) (hr : Room j X.A) (hk : k + 1 ≤ j) : CallR X (.builtin "len") (rLenO C sp C8.E0) := by
  obtain ⟨f, fd, ps, ds, hc, hm, F, b, d⟩ := c.ex
  cases vals_nil d
  exact call_lenO hm.at_ hm.fn F b (hr.mono hk) C8.pass0
theorem op_inM (c : C8.Met X.prog X.w X.K X.mg X.base k C "__contains__" sp []) (hr : Room j X.A) (hk : k ≤ j) : OpR X (compareOp .In) (rInO C sp C8.E0) := by
  obtain ⟨f, fd, ps, ds, hc, hm, F, b, d⟩ := c.ex
  cases vals_nil d
  exact op_inO hm.at_ hm.fn F b (hr.mono hk) C8.pass0
theorem call_listM (c : C8.Met X.prog X.w X.K X.mg X.base k C "__iter__" spI []) (d : C8.Met X.prog X.w X.K X.mg X.base k C "__len__" sp []) (hr : Room j X.A) (hk : k + 3 ≤ j) : CallR X (.type "list") (rListO C spI sp C8.E0 C8.E0) := by
  obtain ⟨f, fd, ps, ds, hc, hm, F, b, dd⟩ := c.ex
  obtain ⟨f2, fd2, ps2, ds2, hc2, hm2, F2, b2, dd2⟩ := d.ex
  cases vals_nil dd
  cases vals_nil dd2
  exact call_listO hm.at_ hm.fn hm2.at_ hm2.fn F b F2 b2 (hr.mono hk)
/-- a generator method -/
structure GMet (P : Program) (w : World) (K : PySem.W.Frag) (mg : Str → Option Value) (base : Heap) (k : Nat) (C : Addr) (m : Str) (sp : SpG) : Prop where
  ex : ∃ (f : Addr) (fd : FuncData) (ps : List Str), Cls K C ∧ Meth K C m f ∧ GFn P w K mg base k f fd ps sp ∧ Binds K fd ps []
end
end Esc

/-! _law_same. -/
namespace Esc
open PySem L2 EscR GenW
theorem ite_no {A B : Prop} {c : Bool} (h : c = false) (b : B) : if c = true then A else B := by
  rw [h]
  exact b
def spLSame (CS CR : Addr) : Sp := fun vs H Q _ => ∃ p q F G m w o r as, ∃ (o' w' l' s' a' : Addr) (ss : List Addr), vs = [.ref p, .ref q] ∧ StoreAt CS CR H F p (norm m) w o r as ∧ ModelAt H G q m o' w' l' s' a' ss ∧ Wf m ∧ m.regs.length < 1000 ∧ m.words.length < 10000 ∧
  ∀ H', Same H H' → Q (.bl true) H'
def nSa : List Str := ["_law_store", "_law_model", "_law_waiting", "_law_actual", "_law_owner_here", "_law_k"]
section
variable {P : Program} {wd : World} {K : PySem.W.Frag} {mg : Str → Option Value} {base : Heap} {CS CR : Addr}
theorem pass_no {X : Cx} : Passes (CX X.prog X.w) X C8.E0 := fun _ _ _ _ _ _ _ c => by
  obtain ⟨_, _, _, _, _, _, _, _, _, _, _, _, h⟩ := c
  exact h.elim
theorem nostop_no {K : PySem.W.Frag} : NoStop K C8.E0 := fun _ _ _ h => h.elim
theorem filt_yes {os : List Int} {i : Nat} {x : Int} (h : os[i]? = some x) (hx : x < 0) : (os.take (i + 1)).filter (fun o => decide (o < 0)) = (os.take i).filter (fun o => decide (o < 0)) ++ [x] := by
  rw [List.take_add_one, h, List.filter_append]
  congr 1
  simp [hx]
theorem filt_no {os : List Int} {i : Nat} {x : Int} (h : os[i]? = some x) (hx : ¬ x < 0) : (os.take (i + 1)).filter (fun o => decide (o < 0)) = (os.take i).filter (fun o => decide (o < 0)) := by
  rw [List.take_add_one, h, List.filter_append]
  simp [hx]
theorem scSa : FnScope nSa ["_law_store", "_law_model"] (defScope lSame) := ⟨rfl, rfl, rfl, by decide +kernel, rfl, by decide +kernel, by decide +kernel⟩
theorem ok_lsame {f : Addr} {fd : FuncData} (F : Fun K "_law_same" "_law_same" lSame f fd) (T : Txt K mg CS CR) (cI : C8.Cal P wd K mg base 1 "_law_is_integer" spIsInt []) (cH : C8.Cal P wd K mg base 1 "_law_held" spLHeld [])
    (pH : Prp P wd K mg base 1 CS "held" (spHeld CS CR)) (pP : Prp P wd K mg base 1 CS "pages" (spPages CS CR)) (pW : Prp P wd K mg base 1 CS "waiting" (spWaiting CS CR))
    (mL : C8.Met P wd K mg base 1 CS "__len__" (spLen CS CR) []) (mI : C8.Met P wd K mg base 1 CS "__iter__" (spIter CS CR) []) (mC : GMet P wd K mg base 1 CS "current" (spCurrent CS CR)) :
    FnOk P wd K mg base CX0 5 f fd ["_law_store", "_law_model"] (spLSame CS CR) := by
  obtain ⟨fc, fdc, psc, hcc, hmc, FC, bc⟩ := mC.ex
  refine F.ok scSa (fun vs H Q E h => ?_) (fun cdv A outer sh H vs Q E hr h => ?_)
  · obtain ⟨p, q, F, G, m, w, o, r, as, o', w', l', s', a', ss, rfl, _⟩ := h
    rfl
  · obtain ⟨p, q, F, G, m, w, o, r, as, o', w', l', s', a', ss, rfl, S, M, wf, hl, hwl, fin⟩ := h
    have hsz2 : ∀ k : Nat, k ≤ 20000 → k < sizeLine := fun k h => Nat.lt_of_le_of_lt h (by decide)
    have hown := wf.len
    refine ⟨_, pss_cons (ps_set (i := 2) scSa.nd rfl (Or.inl rfl) (pe_callB call_len_seq (by rfl) T.bLen PySem.boot_len (pa_cons (pe_lc (own := [("_law_owner_here", 4)]) (g := gName 4) rfl scSa.nd (pi_list (pe_ix ix_list (pv 1) pe_int (fun _ _ => rfl))) (blkOk_by (N := nSa) (sc := defScope lSame) (by decide +kernel)) (fun _ _ _ _ _ => pg_name (i := 4) scSa.nd rfl (Or.inl rfl)) (fun _ _ _ _ _ => pts_one (pt_cmpR op_lt (pv 4) pe_int (nomark _))) (fun _ _ _ _ _ => pv 4)) pa_nil)))
      (pss_cons (ps_for PassesOwn.never rfl (pi_tup (pe_tup (pa_cons (pe_pr pH hr (by decide) (pv 0) rfl) (pa_cons (pe_pr pP hr (by decide) (pv 0) rfl) (pa_cons (pe_pr pW hr (by decide) (pv 0) rfl) pa_nil))))) (pg_name (i := 3) scSa.nd rfl (Or.inl rfl))
        (pss_one (ps_if (pt_not (pt_val (C8.pe_c cI hr (by decide) rfl (pa_cons (pv 3) pa_nil)))) (pss_one (ps_ret pe_bl)) pss_nil)))
      (pss_cons (ps_if (PW.pt (pw_or (pt_cmpR op_ne (pe_pr pH hr (by decide) (pv 0) rfl) (C8.pe_c cH hr (by decide) rfl (pa_cons (pv 1) pa_nil)) (nomark _)) (pw_or (pt_cmpR op_ne (pe_pr pW hr (by decide) (pv 0) rfl) (pv 2) (nomark _))
          (pw_or1 (pt_cmpR op_ne (pe_pr pP hr (by decide) (pv 0) rfl) (pe_op op_sub (pe_callB call_len_seq (by rfl) T.bLen PySem.boot_len (pa_cons (pe_ix ix_list (pv 1) pe_int (fun _ _ => rfl)) pa_nil)) (pv 2)) (nomark _)))))) (pss_one (ps_ret pe_bl)) pss_nil)
      (pss_cons (ps_if (PW.pt (pw_or (pt_cmpR op_ne (pe_callB (call_lenM mL hr (by decide)) (by rfl) T.bLen PySem.boot_len (pa_cons (pv 0) pa_nil)) (pe_callB call_len_seq (by rfl) T.bLen PySem.boot_len (pa_cons (pe_ix ix_list (pv 1) pe_int (fun _ _ => rfl)) pa_nil)) (nomark _))
          (pw_or1 (pt_cmpR (op_neD hr.units) (pe_callTy (call_listM mI mL hr (by decide)) rfl T.bList PySem.Pv.boot_list (pa_cons (pv 0) pa_nil)) (pe_ix ix_list (pv 1) pe_int (fun _ _ => rfl)) (nomark _))))) (pss_one (ps_ret pe_bl)) pss_nil)
      (pss_one (ps_ret (pe_cmpR (op_eqD hr.units) (pe_listG (pgen_meth0 (pv 0) hcc hmc FC (hr.mono (by decide)) bc .nil) pass_no nostop_no hr rfl T.bList PySem.Pv.boot_list)
        (pe_lc (own := [("_law_k", 5)]) (g := gName 5) (tt := tB (tOp (rIxL K) (tOp (rIxL K) (tVar 1) (tC (.int 2))) (tVar 5))) rfl scSa.nd (pi_range1 rfl T.bRange (pa_cons (pe_callB call_len_seq (by rfl) T.bLen PySem.boot_len (pa_cons (pe_ix ix_list (pv 1) pe_int (fun _ _ => rfl)) pa_nil)) pa_nil)) (blkOk_by (N := nSa) (sc := defScope lSame) (by decide +kernel)) (fun _ _ _ _ _ => pg_name (i := 5) scSa.nd rfl (Or.inl rfl))
          (fun _ _ _ _ _ => pts_one (pt_val (pe_ix ix_list (pe_ix ix_list (pv 1) pe_int (fun _ _ => rfl)) (pv 5) (fun _ _ => rfl)))) (fun _ _ _ _ _ => pv 5)) (nomark _))))))), ?_⟩
    obtain ⟨dx, hp⟩ := S.ob
    refine ⟨_, rfl, q, _, _, _, rfl, rfl, SqL.of M.ob, rfl, o', rfl, ⟨_, SqL.of M.ho⟩, fun D hD => ?_⟩
    refine lc_list (K := K) (a := o') (xs := ivs m.owners) (fun i H' => Same H H' ∧ H' D = some (.lst (ivs ((m.owners.take i).filter fun o => decide (o < 0))))) ⟨same_new hD, upd_same⟩ (fun i H' _ ⟨s1, _⟩ => SqL.of (s1 _ _ M.ho)) ?_ ?_
    · rintro i x H1 hx ⟨s1, h1⟩
      obtain ⟨y, ey, rfl⟩ : ∃ y, m.owners[i]? = some y ∧ x = V.int y := by
        unfold ivs at hx
        rw [List.getElem?_map] at hx
        cases e : m.owners[i]? with
        | none =>
          rw [e] at hx
          cases hx
        | some y =>
          rw [e] at hx
          exact ⟨y, rfl, (Option.some.inj hx).symm⟩
      have hi : i < m.owners.length := (List.getElem?_eq_some_iff.mp ey).1
      refine ⟨rfl, _, rfl, _, _, rfl, rfl, _, rfl, ?_⟩
      refine ite2 (fun hv => ?_) (fun hv => ?_)
      · refine ⟨_, rfl, _, h1, ?_, fun b u eb => ?_, ?_⟩
        · rw [ivs_len]
          exact Nat.lt_of_le_of_lt (Nat.le_trans (List.length_filter_le _ _) (by rw [List.length_take]; exact Nat.min_le_right _ _)) (hsz2 _ (by omega))
        · rw [upd_ne (ne_of_none eb hD)]
          exact s1 b u eb
        · rw [upd_same, filt_yes ey (of_decide_eq_true hv), ivs_app]
          rfl
      · refine ⟨s1, ?_⟩
        rw [filt_no ey (fun z => hv (decide_eq_true z))]
        exact h1
    rintro H1 ⟨s1, h1⟩
    rw [ivs_len, List.take_length] at h1
    refine ⟨D, _, rfl, .inl (SqL.of h1), ?_⟩
    rw [ivs_len, waits wf]
    -- the numbers
    have S1 := S.same s1
    refine ⟨_, rfl, p, dx, _, rfl, s1 _ _ hp, p, F, m, w, o, r, as, rfl, S1, hl, fun H2 s2 => ?_⟩
    have S2 := S1.same s2
    refine ⟨_, rfl, p, dx, _, rfl, s2 _ _ (s1 _ _ hp), p, F, _, w, o, r, as, rfl, S2, ?_⟩
    refine ⟨_, rfl, p, dx, _, rfl, s2 _ _ (s1 _ _ hp), p, F, _, w, o, r, as, rfl, S2, ?_⟩
    refine ⟨(by show 3 ≤ sizeLine; decide), fun t ht => ?_⟩
    have s3 : Same H (upd H2 t (.tup [.int (heldM m), .int ((norm m).owners.length - ((norm m).owners.count (-1) : Nat)), .int ((norm m).owners.count (-1) : Nat)])) := (s1.trans s2).trans (same_new ht)
    refine ⟨t, rfl, ⟨_, SqT.of upd_same⟩, for_tup (K := K) (a := t) (xs := [.int (heldM m), .int ((norm m).owners.length - ((norm m).owners.count (-1) : Nat)), .int ((norm m).owners.count (-1) : Nat)])
      (fun i σ H' => ∃ v3, σ = [some (.ref p), some (.ref q), some (.int (m.owners.count (-1) : Nat)), v3, none, none] ∧ H' = upd H2 t (.tup [.int (heldM m), .int ((norm m).owners.length - ((norm m).owners.count (-1) : Nat)), .int ((norm m).owners.count (-1) : Nat)]))
      ⟨none, rfl, rfl⟩ (fun i σ H' _ ⟨_, _, e⟩ => by rw [e]; exact SqT.of upd_same) ?_ ?_⟩
    · rintro i x σ H3 hx ⟨v3, rfl, rfl⟩
      obtain ⟨y, rfl⟩ : ∃ y, x = V.int y := by
        match i, hx with
        | 0, hx => exact ⟨_, (Option.some.inj hx).symm⟩
        | 1, hx => exact ⟨_, (Option.some.inj hx).symm⟩
        | 2, hx => exact ⟨_, (Option.some.inj hx).symm⟩
        | i + 3, hx => simp at hx
      exact ⟨_, rfl, y, rfl, true, rfl, _, rfl, rfl⟩
    rintro σ H3 ⟨v3, rfl, rfl⟩
    have S3 := S.same s3
    have M3 := M.same s3
    -- held, waiting, pages
    refine ⟨_, rfl, p, dx, _, rfl, s3 _ _ hp, p, F, m, w, o, r, as, rfl, S3, hl, fun H4 s4 => ?_⟩
    refine ⟨_, rfl, q, G, m, o', w', l', s', a', ss, rfl, M3.same s4, hl, fun H5 s5 => ?_⟩
    have s6 := (s3.trans s4).trans s5
    have S6 := S.same s6
    have M6 := M.same s6
    refine ⟨rfl, _, rfl, ite_no (by simp) ?_⟩
    refine ⟨_, rfl, p, dx, _, rfl, s6 _ _ hp, p, F, _, w, o, r, as, rfl, S6, ?_⟩
    refine ⟨_, rfl, rfl, _, rfl, ite_no (by simp [norm]) ?_⟩
    refine ⟨_, rfl, p, dx, _, rfl, s6 _ _ hp, p, F, _, w, o, r, as, rfl, S6, ?_⟩
    refine ⟨_, rfl, q, _, _, _, rfl, rfl, SqL.of M6.ob, rfl, o', _, rfl, .inl (SqL.of M6.ho), _, rfl, _, _, rfl, rfl, rfl, _, rfl, ite_no (by rw [ivs_len]; simp [norm]) ?_⟩
    -- len, list
    refine ⟨_, rfl, p, dx, _, rfl, s6 _ _ hp, p, F, _, w, o, r, as, rfl, S6, _, rfl, by omega, ?_, ?_⟩
    · show (m.words.length : Int) < 2 ^ 63
      omega
    refine ⟨_, rfl, q, _, _, _, rfl, rfl, SqL.of M6.ob, rfl, w', _, rfl, .inl (SqL.of M6.hw), rfl, _, rfl, ite_no (by rw [ivs_len]; simp [norm]) ?_⟩
    refine ⟨_, rfl, p, dx, _, rfl, s6 _ _ hp, fun q1 hq1 => ?_⟩
    have S7 := S6.same (same_new (o := .lst []) hq1)
    refine ⟨p, F, _, w, o, r, as, rfl, S7, fun it hit => ?_⟩
    have S8 := S7.same (same_new (o := ItO w it 0) hit)
    have nqi : q1 ≠ it := ne_of_none upd_same hit
    have nwq : w ≠ q1 := ne_of_none S6.hw hq1
    refine ⟨it, w, _, rfl, upd_same, S8.hw, nwq, (by rw [upd_ne nqi]; exact upd_same), ⟨_, _, S8.ob.choose_spec⟩, p, F, _, w, o, r, as, rfl, S8, ⟨_, rfl, by omega, ?_⟩, rfl, fun H9 k9 h9 => ?_⟩
    · show (m.words.length : Int) ≤ (sizeLine : Nat)
      have : m.words.length < sizeLine := hsz2 _ (by omega)
      omega
    have s9 : Same H H9 := fun b u e => by
      have e6 := s6 b u e
      have e7 := same_new (o := .lst []) hq1 _ _ e6
      rw [k9 b (ne_of_none e7 hit) (ne_of_none e6 hq1)]
      exact same_new hit _ _ e7
    have S9 := S.same s9
    have M9 := M.same s9
    refine ⟨_, rfl, q, _, _, _, rfl, rfl, SqL.of M9.ob, rfl, _, _, .lst (SqL.of h9) (dps_ivs _), .lst (SqL.of M9.hw) (dps_ivs _), PySem.W.ke_shaped_ints _, PySem.W.ke_shaped_ints _, _, rfl, ite_no (by rw [eqv_ivs]; simp [norm]) ?_⟩
    -- current
    refine ⟨_, rfl, p, dx, _, rfl, s9 _ _ hp, rfl, p, F, _, w, o, r, as, rfl, S9, by rw [norm_len]; exact hl, fun p1 hp1 => ?_⟩
    have s10 := s9.trans (same_new (o := .lst (ivs (liveM (norm m)))) hp1)
    have M10 := M.same s10
    refine ⟨_, rfl, q, _, _, _, rfl, rfl, SqL.of M10.ob, rfl, l', _, rfl, .inl (SqL.of M10.hl), _, rfl, by omega, by rw [List.length_map]; omega, fun D2 hD2 => ?_⟩
    rw [List.length_map, Int.toNat_natCast]
    refine lc_range (lo := 0) (n := m.regs.length) (fun i H' => Same (upd H9 p1 (.lst (ivs (liveM (norm m))))) H' ∧ H' D2 = some (.lst (ivs (liveK m i)))) ⟨same_new hD2, upd_same⟩ ?_ ?_
    · rintro i H11 hi ⟨s11, h11⟩
      have ez := List.getElem?_eq_getElem hi
      have M11 := M10.same s11
      refine ⟨rfl, _, rfl, q, _, _, _, rfl, rfl, SqL.of M11.ob, rfl, _, rfl, l', _, _, _, rfl, rfl, SqL.of M11.hl, at_of (j := i) (by omega) (map_nth _ ez), _, rfl, ?_⟩
      refine ite2 (fun hv => ?_) (fun hv => ?_)
      · refine ⟨_, rfl, _, h11, ?_, fun b u eb => ?_, ?_⟩
        · rw [ivs_len]
          exact Nat.lt_of_le_of_lt (liveK_len m i) (hsz2 _ (by omega))
        · rw [upd_ne (ne_of_none eb hD2)]
          exact s11 b u eb
        · rw [upd_same, liveK_yes ez hv, ivs_app, Int.zero_add]
          rfl
      · refine ⟨s11, ?_⟩
        rw [liveK_no ez hv]
        exact h11
    · rintro H11 ⟨s11, h11⟩
      refine ⟨_, _, .lst (SqL.of (s11 _ _ upd_same)) (dps_ivs _), .lst (SqL.of h11) (dps_ivs _), PySem.W.ke_shaped_ints _, PySem.W.ke_shaped_ints _, ?_⟩
      have e : decide (liveM (norm m) = liveK m m.regs.length) = true := decide_eq_true (by rw [norm_live]; rfl)
      rw [eqv_ivs, e]
      exact fin _ (s10.trans s11)
end
end Esc

/-! A method called in a try body; a def called in an except suite. -/
namespace EscR
open PySem PySem.Spec PyProof.Rows L2
section
variable {X : Cx} {CX : CXT} {k : Nat} {f C : Addr} {fd : FuncData} {ps : List Str} {sp : Sp} {E : L2.St → XK} {x m : Str} {p pos apos : Pos} {e o : Expr} {es : List Expr} {ta : TE} {t : TA}
theorem pe_methS {pl : Sem Bool} (he : PE X o ta) (c : Cls X.K C) (hm : Meth X.K C m f) (F : FnOk X.prog X.w X.K X.mg X.base CX k f fd ps sp) (hr : Room k X.A) (hb : Binds X.K fd ps []) (hx : ∀ σ, PassesAt CX X σ (E σ)) (ha : PA X (e :: es) t)
    (hst : starEach (e :: es) X.env = (false, eval e X.env) :: starEach es X.env := by rfl) (hpl : (backTo pos (starEach es X.env)).any (·.1) = false := by rfl)
    (ht : eval (.Call (.Attribute o m apos) (e :: es) [] pos) X.env = (do
      let ov ← eval o X.env
      standAt apos.atName
      let (f, first) ← holding [ov] (getMethod ov m pl)
      callWith pos f first (backTo pos (starEach (e :: es) X.env)) (backToKw pos (keywordEach [] X.env))) := by rfl) :
    PE X (.Call (.Attribute o m apos) (e :: es) [] pos) (L2H.tMethH C m sp E ta t) := by
  refine ⟨fun pins s σ H Q I h => ?_⟩
  refine PySem.W.methodCall_KW (pl := pl) (thn (he.run pins s σ H _ I h) fun u s1 ⟨x, H1, I1, rx, a, dx, fs, ex, ea, l, q⟩ => ?_) ht
  subst ex
  obtain rfl : u = Value.ref a := rx
  refine getmeth_ok I1 ea c hm l ?_
  refine PySem.W.callWith_K (first := [.ref a]) (h₀ := X.base) I.ok.mod.kin hm.kp (thn (ha.run pos pins s1 σ H1 _ I1 q) fun us s2 ⟨vs, H2, I2, r, q2⟩ => ⟨I2.kIn, ?_⟩) hst hpl
  exact run_fnS (us := .ref a :: us) (vs := .ref a :: vs) F hr hb (hx σ) I2 (.cons rfl r) q2
/-- a method that may raise (without context) -/
structure MetN (P : Program) (w : World) (K : PySem.W.Frag) (mg : Str → Option Value) (base : Heap) (k : Nat) (C : Addr) (m : Str) (sp : Sp) : Prop where
  ex : ∃ (f : Addr) (fd : FuncData) (ps : List Str), Cls K C ∧ Meth K C m f ∧ FnOk P w K mg base (L2N.CX P w) k f fd ps sp ∧ Binds K fd ps []
theorem pe_mtS {W : WX} {j : Nat} {pl : Sem Bool} (c : MetN X.prog X.w X.K X.mg X.base k C m sp) (tk : L2N.Takes X W) (hr : Room j X.A) (hk : k ≤ j) (he : PE X o ta) (ha : PA X (e :: es) t)
    (hst : starEach (e :: es) X.env = (false, eval e X.env) :: starEach es X.env := by rfl) (hpl : (backTo pos (starEach es X.env)).any (·.1) = false := by rfl)
    (ht : eval (.Call (.Attribute o m apos) (e :: es) [] pos) X.env = (do
      let ov ← eval o X.env
      standAt apos.atName
      let (f, first) ← holding [ov] (getMethod ov m pl)
      callWith pos f first (backTo pos (starEach (e :: es) X.env)) (backToKw pos (keywordEach [] X.env))) := by rfl) :
    PE X (.Call (.Attribute o m apos) (e :: es) [] pos) (L2H.tMethH C m sp (WE W) ta t) := by
  obtain ⟨f, fd, ps, hc, hm, F, b⟩ := c.ex
  exact pe_methS (pl := pl) he hc hm F (hr.mono hk) b (fun σ => L2N.passAt tk σ) ha hst hpl ht
/-- a def, in an except suite -/
structure CalH (P : Program) (w : World) (K : PySem.W.Frag) (mg : Str → Option Value) (base : Heap) (k : Nat) (x : Str) (sp : Sp) : Prop where
  ex : ∃ (f : Addr) (fd : FuncData) (ps : List Str), L2H.FnH P w K mg base CX0 k f fd ps sp ∧ mg x = some (.ref f) ∧ PySem.W.keepIn K (.ref f) = true ∧ Binds K fd ps []
theorem pe_cH {j : Nat} (c : CalH X.prog X.w X.K X.mg X.base k x sp) (hr : L2H.RoomH j X.A) (hk : k ≤ j) (hot : L2H.HotC X) (hg : Gl X x) (ha : PA X (e :: es) t)
    (hdb : (x == ("__debug__" : Str)) = false := by decide) (he : starEach (e :: es) X.env = (false, eval e X.env) :: starEach es X.env := by rfl) (hpl : (backTo pos (starEach es X.env)).any (·.1) = false := by rfl) :
    PE X (.Call (.Name x p) (e :: es) [] pos) (tCallS sp (fun _ => C8.E0) t) := by
  obtain ⟨f, fd, ps, F, hm, kp, b⟩ := c.ex
  exact L2H.pe_callH F (hr.mono hk) hot hg hm kp b (fun _ _ _ _ _ _ _ h => h.elim) ha hdb he hpl
theorem takesN0 {X : Cx} : L2N.Takes X (fun _ _ _ _ => False) := fun _ _ x => by
  obtain ⟨_, _, _, _, _, _, _, _, _, _, _, _, _, _, _, _, h⟩ := x
  exact h.elim
theorem hot_of {X : Cx} {a : Addr} {oe : Obj} {cls : Value} {d : Option Addr} {pn : List (Addr × Obj)} (hz : L2N.Zn cls d oe) (hf : ∃ vs, oe.data = .fields vs) : L2H.HotC (X.suite a ((a, oe) :: pn)) := by
  obtain ⟨vs, e⟩ := hf
  exact ⟨(a, oe), ⟨rfl, vs, e, hz.2.2 vs e⟩, List.mem_cons_self⟩
end
end EscR

/-! The situation: the draws, a store, its model, what is known. -/
namespace Esc
open PySem L2
/-- what stands in F1, F2 and kn -/
def foot (F1 F2 : Ft) (kn : Addr) : Ft := fun b => F1 b ∨ F2 b ∨ b = kn
structure Duo (CS CR : Addr) (H : Hp) (F1 F2 : Ft) (p q kn : Addr) (ms mm : Mem) (ks : List Int) : Prop where
  s : ∃ w o r as, StoreAt CS CR H F1 p ms w o r as
  m : ∃ o w l s a ss, ModelAt H F2 q mm o w l s a ss
  k : H kn = some (.lst (ivs ks))
  d12 : ∀ b, F1 b → ¬ F2 b
  d1 : ¬ F1 kn
  d2 : ¬ F2 kn
/-- what changed lies in F or is the state; what is new was not there -/
structure Mv (st : Addr) (F F' : Ft) (H H' : Hp) : Prop where
  kp : ∀ b u, H b = some u → ¬ F b → b ≠ st → H' b = some u
  nw : ∀ b, F' b → F b ∨ H b = none
section
variable {CS CR : Addr} {H H' H1 H2 : Hp} {F F' F0 F1 F2 F1' F2' : Ft} {p q kn st sc : Addr} {ms mm ms' mm' : Mem} {ks : List Int} {ns : List Int}
theorem Mv.refl (st : Addr) (F : Ft) (H : Hp) : Mv st F F H H := ⟨fun _ _ e _ _ => e, fun _ h => .inl h⟩
theorem Mv.trans {Fa Fb Fc : Ft} (a : Mv st Fa Fb H H1) (b : Mv st Fb Fc H1 H2) (h : ∃ u, H1 st = some u) : Mv st Fa Fc H H2 where
  kp := fun c u e n ns => b.kp c u (a.kp c u e n ns) (fun f => by
    rcases a.nw c f with z | z
    · exact n z
    · rw [e] at z
      cases z) ns
  nw := fun c f => by
    rcases b.nw c f with z | z
    · exact a.nw c z
    · cases e : H c with
      | none => exact .inr rfl
      | some u =>
        refine .inl (Classical.byContradiction fun n => ?_)
        by_cases hs : c = st
        · obtain ⟨v, hv⟩ := h
          rw [hs, hv] at z
          cases z
        · rw [a.kp c u e n hs] at z
          cases z
theorem Mv.same (s : Same H H') : Mv st F F H H' := ⟨fun b u e _ _ => s b u e, fun _ h => .inl h⟩
theorem Mv.only (o : Only st H H') : Mv st F F H H' := ⟨fun b u e _ n => by rw [o b n]; exact e, fun _ h => .inl h⟩
theorem Duo.live (D : Duo CS CR H F1 F2 p q kn ms mm ks) : ∀ b, foot F1 F2 kn b → ∃ u, H b = some u := fun b f => by
  obtain ⟨w, o, r, as, S⟩ := D.s
  obtain ⟨o', w', l', s', a', ss, M⟩ := D.m
  rcases f with f | f | rfl
  · exact S.live b f
  · exact M.live b f
  · exact ⟨_, D.k⟩
theorem Duo.mono (D : Duo CS CR H F1 F2 p q kn ms mm ks) (k : ∀ b u, foot F1 F2 kn b → H b = some u → H' b = some u) : Duo CS CR H' F1 F2 p q kn ms mm ks where
  s := let ⟨w, o, r, as, S⟩ := D.s; ⟨w, o, r, as, S.mono fun b u f e => k b u (.inl f) e⟩
  m := let ⟨o, w, l, s, a, ss, M⟩ := D.m; ⟨o, w, l, s, a, ss, M.mono fun b u f e => k b u (.inr (.inl f)) e⟩
  k := k _ _ (.inr (.inr rfl)) D.k
  d12 := D.d12
  d1 := D.d1
  d2 := D.d2
theorem Duo.store (D : Duo CS CR H F1 F2 p q kn ms mm ks) {w o r : Addr} {as : List Addr} (S : StoreAt CS CR H' F1' p ms' w o r as) (c : Ch F1 F1' H H') : Duo CS CR H' F1' F2 p q kn ms' mm ks ∧ Mv st (foot F1 F2 kn) (foot F1' F2 kn) H H' := by
  have nl : ∀ b, H b = none → ¬ foot F1 F2 kn b := fun b e f => by
    obtain ⟨u, z⟩ := D.live b f
    rw [e] at z
    cases z
  refine ⟨⟨⟨w, o, r, as, S⟩, let ⟨o, w, l, s, a, ss, M⟩ := D.m; ⟨o, w, l, s, a, ss, M.mono fun b u f e => c.keep b u e fun g => D.d12 b g f⟩, c.keep _ _ D.k D.d1, fun b f g => ?_, fun f => ?_, D.d2⟩, fun b u e n _ => c.keep b u e fun f => n (.inl f), fun b f => ?_⟩
  · rcases c.new b f with z | z
    · exact D.d12 b z g
    · exact nl b z (.inr (.inl g))
  · rcases c.new kn f with z | z
    · exact D.d1 z
    · exact nl kn z (.inr (.inr rfl))
  · rcases f with f | f | rfl
    · rcases c.new b f with z | z
      · exact .inl (.inl z)
      · exact .inr z
    · exact .inl (.inr (.inl f))
    · exact .inl (.inr (.inr rfl))
theorem Duo.model (D : Duo CS CR H F1 F2 p q kn ms mm ks) {o w l s a : Addr} {ss : List Addr} (M : ModelAt H' F2' q mm' o w l s a ss) (c : Ch F2 F2' H H') : Duo CS CR H' F1 F2' p q kn ms mm' ks ∧ Mv st (foot F1 F2 kn) (foot F1 F2' kn) H H' := by
  have nl : ∀ b, H b = none → ¬ foot F1 F2 kn b := fun b e f => by
    obtain ⟨u, z⟩ := D.live b f
    rw [e] at z
    cases z
  refine ⟨⟨let ⟨w, o, r, as, S⟩ := D.s; ⟨w, o, r, as, S.mono fun b u f e => c.keep b u e fun g => D.d12 b f g⟩, ⟨o, w, l, s, a, ss, M⟩, c.keep _ _ D.k D.d2, fun b g f => ?_, D.d1, fun f => ?_⟩, fun b u e n _ => c.keep b u e fun f => n (.inr (.inl f)), fun b f => ?_⟩
  · rcases c.new b f with z | z
    · exact D.d12 b g z
    · exact nl b z (.inl g)
  · rcases c.new kn f with z | z
    · exact D.d2 z
    · exact nl kn z (.inr (.inr rfl))
  · rcases f with f | f | rfl
    · exact .inl (.inl f)
    · rcases c.new b f with z | z
      · exact .inl (.inr (.inl z))
      · exact .inr z
    · exact .inl (.inr (.inr rfl))
theorem Duo.known (D : Duo CS CR H F1 F2 p q kn ms mm ks) (ks' : List Int) : Duo CS CR (upd H kn (.lst (ivs ks'))) F1 F2 p q kn ms mm ks' ∧ Mv st (foot F1 F2 kn) (foot F1 F2 kn) H (upd H kn (.lst (ivs ks'))) :=
  ⟨⟨let ⟨w, o, r, as, S⟩ := D.s; ⟨w, o, r, as, S.mono fun b u f e => by rw [upd_ne (fun z => D.d1 (by rw [← z]; exact f))]; exact e⟩,
    let ⟨o, w, l, s, a, ss, M⟩ := D.m; ⟨o, w, l, s, a, ss, M.mono fun b u f e => by rw [upd_ne (fun z => D.d2 (by rw [← z]; exact f))]; exact e⟩, upd_same, D.d12, D.d1, D.d2⟩,
    fun b u e n _ => by rw [upd_ne (fun z => n (.inr (.inr z)))]; exact e, fun b f => .inl f⟩
/-- the situation of a deed -/
structure Sit (CS CR : Addr) (H : Hp) (st sc : Addr) (ns : List Int) (F1 F2 : Ft) (p q kn : Addr) (ms mm : Mem) (ks : List Int) : Prop where
  S : StateAt H st sc ns
  D : Duo CS CR H F1 F2 p q kn ms mm ks
  n1 : ¬ foot F1 F2 kn st
  n2 : ¬ foot F1 F2 kn sc
theorem Sit.stl (T : Sit CS CR H st sc ns F1 F2 p q kn ms mm ks) : ∃ u, H st = some u := let ⟨_, _, _, _, e⟩ := T.S.ob; ⟨_, e⟩
theorem Sit.draw (T : Sit CS CR H st sc ns F1 F2 p q kn ms mm ks) (S : StateAt H' st sc ns) (o : Only st H H') : Sit CS CR H' st sc ns F1 F2 p q kn ms mm ks ∧ Mv st (foot F1 F2 kn) (foot F1 F2 kn) H H' :=
  ⟨⟨S, T.D.mono fun b u f e => by rw [o b (fun z => T.n1 (by rw [← z]; exact f))]; exact e, T.n1, T.n2⟩, .only o⟩
theorem Sit.same (T : Sit CS CR H st sc ns F1 F2 p q kn ms mm ks) (s : Same H H') : Sit CS CR H' st sc ns F1 F2 p q kn ms mm ks ∧ Mv st (foot F1 F2 kn) (foot F1 F2 kn) H H' :=
  ⟨⟨T.S.same s, T.D.mono fun b u _ e => s b u e, T.n1, T.n2⟩, .same s⟩
theorem Sit.off (T : Sit CS CR H st sc ns F1 F2 p q kn ms mm ks) {ks' : List Int} (D : Duo CS CR H' F1' F2' p q kn ms' mm' ks') (k : ∀ b u, H b = some u → ¬ foot F1 F2 kn b → H' b = some u) (v : Mv st (foot F1 F2 kn) (foot F1' F2' kn) H H') : Sit CS CR H' st sc ns F1' F2' p q kn ms' mm' ks' := by
  obtain ⟨a, b, c, h0, e⟩ := T.S.ob
  refine ⟨⟨⟨a, b, c, h0, k _ _ e T.n1⟩, k _ _ T.S.hs T.n2, T.S.ne⟩, D, fun f => ?_, fun f => ?_⟩
  · rcases v.nw _ f with z | z
    · exact T.n1 z
    · rw [e] at z
      cases z
  · rcases v.nw _ f with z | z
    · exact T.n2 z
    · rw [T.S.hs] at z
      cases z
theorem Sit.store (T : Sit CS CR H st sc ns F1 F2 p q kn ms mm ks) {w o r : Addr} {as : List Addr} (S : StoreAt CS CR H' F1' p ms' w o r as) (c : Ch F1 F1' H H') : Sit CS CR H' st sc ns F1' F2 p q kn ms' mm ks ∧ Mv st (foot F1 F2 kn) (foot F1' F2 kn) H H' :=
  let R := T.D.store (st := st) S c
  ⟨T.off R.1 (fun b u e n => c.keep b u e fun f => n (.inl f)) R.2, R.2⟩
theorem Sit.model (T : Sit CS CR H st sc ns F1 F2 p q kn ms mm ks) {o w l s a : Addr} {ss : List Addr} (M : ModelAt H' F2' q mm' o w l s a ss) (c : Ch F2 F2' H H') : Sit CS CR H' st sc ns F1 F2' p q kn ms mm' ks ∧ Mv st (foot F1 F2 kn) (foot F1 F2' kn) H H' :=
  let R := T.D.model (st := st) M c
  ⟨T.off R.1 (fun b u e n => c.keep b u e fun f => n (.inr (.inl f))) R.2, R.2⟩
theorem Sit.known (T : Sit CS CR H st sc ns F1 F2 p q kn ms mm ks) (ks' : List Int) : Sit CS CR (upd H kn (.lst (ivs ks'))) st sc ns F1 F2 p q kn ms mm ks' ∧ Mv st (foot F1 F2 kn) (foot F1 F2 kn) H (upd H kn (.lst (ivs ks'))) :=
  let R := T.D.known (st := st) ks'
  ⟨T.off R.1 (fun b u e n => by rw [upd_ne (fun z => n (.inr (.inr z)))]; exact e) R.2, R.2⟩
end
end Esc

/-! _law_make. -/
namespace Esc
open PySem L2 EscR
theorem ite_yes {A B : Prop} {c : Bool} (h : c = true) (a : A) : if c = true then A else B := by
  rw [h]
  exact a
def spMake (CS CR : Addr) : Sp := fun vs H Q _ => ∃ st sc, ∃ ns : List Int, ∃ F1 F2 p q kn m, ∃ ks : List Int, vs = [.ref st, .ref p, .ref q, .ref kn] ∧ Sit CS CR H st sc ns F1 F2 p q kn (norm m) m ks ∧ Wf m ∧ m.owners.length ≤ 450 ∧ m.regs.length < 1000 ∧ ks.length < 900 ∧
  ∀ H' m' ks', Sit CS CR H' st sc ns F1 F2 p q kn (norm m') m' ks' → Mv st (foot F1 F2 kn) (foot F1 F2 kn) H H' → Wf m' → m'.owners.length ≤ m.owners.length + 5 → m'.regs.length = m.regs.length → ks'.length ≤ ks.length + 1 → Q (.bl true) H'
def nMk : List Str := ["_law_state", "_law_store", "_law_model", "_law_known", "_law_region_here", "_law_words", "_law_due", "_law_actual", "e"]
section
variable {P : Program} {wd : World} {K : PySem.W.Frag} {mg : Str → Option Value} {base : Heap} {CS CR C fI cc cda : Addr}
theorem scMk : FnScope nMk ["_law_state", "_law_store", "_law_model", "_law_known"] (defScope lMake) := ⟨rfl, rfl, rfl, by decide +kernel, rfl, by decide +kernel, by decide +kernel⟩
theorem xfc (ST : EscR.SeTxt P K mg C fI cc cda) : XfC K C := ⟨ST.ga, ST.gg, ST.exC, ST.hdC⟩
theorem reason_get (v : V) : List.lookup ("reason" : Str) [(("reason" : Str), v)] = some v := by simp [List.lookup]
theorem ok_make {f : Addr} {fd : FuncData} (F : Fun K "_law_make" "_law_make" lMake f fd) (T : Txt K mg CS CR) (ST : EscR.SeTxt P K mg C fI cc cda) (cD : C8.Cal P wd K mg base 1 "_law_draw" spDraw []) (cR : C8.Cal P wd K mg base 2 "_law_region" spLRegion []) (cO : C8.Cal P wd K mg base 1 "_law_open" spLOpen [])
    (cI : C8.Cal P wd K mg base 1 "_law_is_integer" spIsInt []) (cC : C8.Cal P wd K mg base 3 "_law_cell" spLCell []) (mC : MetN P wd K mg base 3 CS "cell" (spCell CS CR C)) :
    FnOk P wd K mg base CX0 4 f fd ["_law_state", "_law_store", "_law_model", "_law_known"] (spMake CS CR) := by
  refine F.ok scMk (fun vs H Q E h => ?_) (fun cdv A outer sh H vs Q E hr h => ?_)
  · obtain ⟨st, sc, ns, F1, F2, p, q, kn, m, ks, rfl, _⟩ := h
    rfl
  · obtain ⟨st, sc, ns, F1, F2, p, q, kn, m, ks, rfl, T0, wf, hl, hrl, hkl, fin⟩ := h
    have hnl := norm_len m
    obtain ⟨tt, htt, rd⟩ : ∃ t, PSs (cxOf CX0 P wd K mg base nMk "_law_make" (defScope lMake) f cdv A outer sh H E).nox ((defBody lMake).drop 3) t ∧
        ∀ (H2 : Hp) (r k : Int), Sit CS CR H2 st sc ns F1 F2 p q kn (norm m) m ks → Mv st (foot F1 F2 kn) (foot F1 F2 kn) H H2 → k ≤ 40 →
          t { nx := fun _ H' => Q .non H', rt := Q } [some (.ref st), some (.ref p), some (.ref q), some (.ref kn), some (.int r), some (.int k), none, none, none] H2 := by
      refine ⟨_, pss_cons (ps_set (i := 6) scMk.nd rfl (Or.inl rfl) pe_non)
        (pss_cons (ps_if (pt_not (pt_val (C8.pe_c cO hr (by decide) rfl (pa_cons (pv 2) (pa_cons (pv 4) pa_nil))))) (pss_one (ps_set (i := 6) scMk.nd rfl (Or.inl rfl) pe_str))
          (pss_one (ps_if (pt_cmpR op_lt (pv 5) pe_int (nomark _)) (pss_one (ps_set (i := 6) scMk.nd rfl (Or.inl rfl) pe_str)) pss_nil)))
        (pss_cons (L2N.ps_try_as (i := 8) (tb := fun W => tAsg (L2H.tMethH CS "cell" (spCell CS CR C) (WE W) (tVar 1) (tCons (tVar 4) (tCons (tVar 5) tNil))) (gName 7))
            (ts := fun a cls d => tRet (tAndV (tNotN (tVar 6)) (tOp rEq (tXf a cls d C "reason" (tVar 8)) (tVar 6)))) (Wout := fun _ _ _ _ => False) rfl rfl scMk.nd rfl rfl ⟨rfl, by decide, Or.inl ST.gC⟩ takesN0
          (fun W pn xe tk _ => pss_one (ps_set (i := 7) scMk.nd rfl (Or.inl rfl) (by exact (pe_mtS mC tk hr (by decide) (pv 1) (by exact (pa_cons (pv 4) (pa_cons (pv 5) pa_nil)))))))
          (fun a oe cls d pn hz hf => pss_one (ps_ret (pe_and (pe_cmp (pc_notN (pv 6))) (pe_one (pe_cmpR op_eq (by exact pe_xf (xfc ST) ST.noN hz.zc hf (pv 8)) (pv 6) (nomark _)))))))
        (pss_cons (ps_if (PW.pt (pw_or (pt_cmp (pc_notN (pv 6))) (pw_or (pt_not (pt_val (C8.pe_c cI hr (by decide) rfl (pa_cons (pv 7) pa_nil)))) (pw_or1 (pt_cmpR op_ne (pv 7) (C8.pe_c cC hr (by decide) rfl (pa_cons (pv 2) (pa_cons (pv 4) (pa_cons (pv 5) pa_nil)))) (nomark _)))))) (pss_one (ps_ret pe_bl)) pss_nil)
        (pss_cons (ps_expr (pe_bm PySem.F.plainAttrs_list PySem.F.slot_list_append PySem.F.type_list_append mt_append (pv 3) (pa_cons (pv 7) pa_nil))) (pss_one (ps_ret pe_bl)))))), ?_⟩
      intro H2 r k T2 v2 h40
      obtain ⟨w, o, rr, as, S2⟩ := T2.D.s
      obtain ⟨o', w', l', s', a', ss, M2⟩ := T2.D.m
      obtain ⟨dx, hp⟩ := S2.ob
      have oN := open_norm m r
      -- the two refusals' end
      have no : ∀ (x : Str) (d : Addr), H2 d = none → Q (.bl true) (upd H2 d (reasonD x)) := fun x d hd => by
        have R := T2.same (same_new (o := reasonD x) hd)
        exact fin _ m ks R.1 (v2.trans R.2 T2.stl) wf (by omega) rfl (by omega)
      refine ⟨_, rfl, _, rfl, q, F2, m, o', w', l', s', a', ss, r, rfl, M2, _, rfl, ?_⟩
      refine ite2 (fun hc => ?_) (fun hc => ?_)
      · have ho : openM m r = false := by simpa using hc
        refine ⟨_, rfl, p, dx, _, rfl, hp, rfl, _, rfl, _, rfl, p, F1, norm m, w, o, rr, as, r, k, rfl, S2, wf_norm wf, by show m.owners.length ≤ 500; omega, h40, fun _ d hd => ⟨true, ST.te, fun _ a ha => ?_, fun z => Bool.noConfusion z⟩, fun ho2 => ?_, fun ho2 => ?_⟩
        · refine ⟨_, rfl, _, rfl, ite_yes (by simp) ?_⟩
          refine ⟨_, rfl, rfl, rfl, d, _, _, rfl, upd_same, reason_get _, _, rfl, rfl, ?_⟩
          exact no errR d hd
        · rw [oN, ho] at ho2
          cases ho2
        · rw [oN, ho] at ho2
          cases ho2
      have ho : openM m r = true := by simpa using hc
      refine ⟨_, rfl, _, _, rfl, rfl, _, rfl, ?_⟩
      refine ite2 (fun hk => ?_) (fun hk => ?_)
      · have hk : k < 1 := of_decide_eq_true hk
        refine ⟨_, rfl, p, dx, _, rfl, hp, rfl, _, rfl, _, rfl, p, F1, norm m, w, o, rr, as, r, k, rfl, S2, wf_norm wf, by show m.owners.length ≤ 500; omega, h40, fun ho2 => ?_, fun _ _ d hd => ⟨true, ST.te, fun _ a ha => ?_, fun z => Bool.noConfusion z⟩, fun _ hk2 => ?_⟩
        · rw [oN, ho] at ho2
          cases ho2
        · refine ⟨_, rfl, _, rfl, ite_yes (by simp) ?_⟩
          refine ⟨_, rfl, rfl, rfl, d, _, _, rfl, upd_same, reason_get _, _, rfl, rfl, ?_⟩
          exact no errW d hd
        · exact absurd hk hk2
      have hk : ¬ k < 1 := fun z => hk (decide_eq_true z)
      obtain ⟨r0, r1, z, hz, hlv⟩ := open_reg ho
      obtain ⟨j, rfl⟩ : ∃ j : Nat, r = (j : Int) := ⟨r.toNat, by omega⟩
      rw [Int.toNat_natCast] at hz
      refine ⟨_, rfl, p, dx, _, rfl, hp, rfl, _, rfl, _, rfl, p, F1, norm m, w, o, rr, as, (j : Int), k, rfl, S2, wf_norm wf, by show m.owners.length ≤ 500; omega, h40, fun ho2 => ?_, fun _ hk2 => ?_, fun _ _ z2 hz2 H3 S3 c3 => ?_⟩
      · rw [oN, ho] at ho2
        cases ho2
      · exact absurd hk2 hk
      rw [Int.toNat_natCast] at hz2 S3 ⊢
      have ez : z = z2 := by
        have e := norm_get hz
        rw [nz_live hlv] at e
        exact Option.some.inj (e.symm.trans hz2)
      subst ez
      rw [norm_cell m j z k hlv] at S3 ⊢
      have R3 := T2.store S3 c3
      obtain ⟨o', w', l', s', a', ss, M3⟩ := R3.1.D.m
      refine ⟨_, rfl, _, rfl, ite_no (by simp) ?_⟩
      refine ⟨_, rfl, _, rfl, _, rfl, ite_no rfl ?_⟩
      refine ⟨_, rfl, _, rfl, _, rfl, _, rfl, q, F2, m, o', w', l', s', a', ss, j, k, z, rfl, M3, wf, by omega, by omega, h40, hz, fun H4 M4 c4 => ?_⟩
      refine ⟨rfl, _, rfl, ite_no (by simp) ?_⟩
      have R4 := R3.1.model M4 c4
      have hkn := R4.1.D.k
      refine ⟨_, rfl, .inl ⟨rfl, _, SqL.of hkn⟩, _, rfl, kn, _, _, rfl, rfl, hkn, ?_, ?_⟩
      · rw [ivs_len]
        exact Nat.lt_trans hkl (by decide)
      have R5 := R4.1.known (ks ++ [(cellM m j z k).1])
      have e5 : ivs ks ++ [V.int (cellM m j z k).1] = ivs (ks ++ [(cellM m j z k).1]) := (ivs_app ks [(cellM m j z k).1]).symm
      have hcl := cell_len (m := m) (i := j) (z := z) (k := k) (by omega) h40
      show Q (.bl true) (upd H4 kn (.lst (ivs ks ++ [V.int (cellM m j z k).1])))
      rw [e5]
      exact fin _ _ _ R5.1 (((v2.trans R3.2 T2.stl).trans R4.2 R3.1.stl).trans R5.2 R4.1.stl) (wf_cell wf hz (by omega)) hcl.1 hcl.2 (by rw [List.length_append, List.length_singleton]; exact Nat.le_refl _)
    refine ⟨_, pss_cons (ps_set (i := 4) scMk.nd rfl (Or.inl rfl) (C8.pe_c cR hr (by decide) rfl (pa_cons (pv 0) (pa_cons (pv 2) pa_nil))))
      (pss_cons (ps_set (i := 5) scMk.nd rfl (Or.inl rfl) (pe_op op_add pe_int (C8.pe_c cD hr (by decide) rfl (pa_cons (pv 0) (pa_cons pe_int pa_nil)))))
      (pss_cons (ps_if (pt_cmpR op_eq (C8.pe_c cD hr (by decide) rfl (pa_cons (pv 0) (pa_cons pe_int pa_nil))) pe_int (nomark _))
        (pss_one (ps_set (i := 5) scMk.nd rfl (Or.inl rfl) (pe_op op_sub (C8.pe_c cD hr (by decide) rfl (pa_cons (pv 0) (pa_cons pe_int pa_nil))) pe_int))) pss_nil) htt)), ?_⟩
    obtain ⟨o', w', l', s', a', ss, M0⟩ := T0.D.m
    refine ⟨_, rfl, _, rfl, st, sc, ns, q, F2, m, o', w', l', s', a', ss, rfl, T0.S, M0, hrl, fun H1 r S1 o1 hr0 hr1 => ?_⟩
    have R1 := T0.draw S1 o1
    refine ⟨_, rfl, st, sc, ns, _, rfl, S1, by decide, by decide, fun H2 k S2 o2 k0 k1 => ?_⟩
    have R2 := R1.1.draw S2 o2
    refine ⟨_, _, rfl, rfl, ?_⟩
    refine ⟨_, rfl, st, sc, ns, _, rfl, S2, by decide, by decide, fun H3 x S3 o3 x0 x1 => ?_⟩
    have R3 := R2.1.draw S3 o3
    have v3 := (R1.2.trans R2.2 R1.1.stl).trans R3.2 R2.1.stl
    refine ⟨rfl, _, rfl, ?_⟩
    refine ite2 (fun _ => ?_) (fun _ => ?_)
    · refine ⟨_, rfl, st, sc, ns, _, rfl, S3, by decide, by decide, fun H4 y S4 o4 y0 y1 => ?_⟩
      have R4 := R3.1.draw S4 o4
      exact ⟨_, _, rfl, rfl, rd H4 r _ R4.1 (v3.trans R4.2 R3.1.stl) (by omega)⟩
    · exact rd H3 r _ R3.1 v3 (by omega)
end
end Esc

/-! _law_open in an except suite; _law_deed. -/
namespace Esc
open PySem L2 EscR
def spDeed (CS CR : Addr) : Sp := fun vs H Q _ => ∃ st sc, ∃ ns : List Int, ∃ F1 F2 p q kn m, ∃ ks : List Int, vs = [.ref st, .ref p, .ref q, .ref kn] ∧ Sit CS CR H st sc ns F1 F2 p q kn (norm m) m ks ∧ Wf m ∧ m.owners.length ≤ 450 ∧ m.regs.length < 900 ∧ ks.length < 900 ∧
  ∀ H' F1' F2' m' ks', Sit CS CR H' st sc ns F1' F2' p q kn (norm m') m' ks' → Mv st (foot F1 F2 kn) (foot F1' F2' kn) H H' → Wf m' → m'.owners.length ≤ m.owners.length + 5 → m'.regs.length ≤ m.regs.length + 1 → ks'.length ≤ ks.length + 1 → Q (.bl true) H'
def nDe : List Str := ["_law_state", "_law_store", "_law_model", "_law_known", "_law_deed_here", "_law_actual", "_law_region_here", "e", "_law_address_here", "_law_word"]
section
variable {P : Program} {wd : World} {K : PySem.W.Frag} {mg : Str → Option Value} {base : Heap} {CS CR C fI cc cda : Addr}
theorem ok_lopenH {f : Addr} {oc kV doc pm cdv ct : Value} {an od : Option Addr} {osl : Array (Option Value)} (lk : K.lookup f = some ⟨oc, od, .func (PySem.W.fnOf "_law_open" "_law_open" (defArgs lOpen) (defBody lOpen) (defScope lOpen) .none kV doc pm an cdv ct), osl⟩) (hcd : PySem.W.codeIn K cdv "_law_open" = true) (T : Txt K mg CS CR) :
    L2H.FnH P wd K mg base CX0 1 f (PySem.W.fnOf "_law_open" "_law_open" (defArgs lOpen) (defBody lOpen) (defScope lOpen) .none kV doc pm an cdv ct) ["_law_model", "_law_region_here"] spLOpen := by
  refine L2H.fn_ofH lk hcd scLOp (fun vs H Q E h => ?_) (fun A outer sh H vs Q E pp hot hr h => ?_)
  · obtain ⟨p, F, m, o, w, l, s, a, ss, x, rfl, _⟩ := h
    rfl
  · obtain ⟨p, F, m, o, w, l, s, a, ss, x, rfl, M, q⟩ := h
    refine ⟨_, pss_one (ps_ret (pe_and (pe_cmpR op_ge (pv 1) pe_int (nomark _)) (pe_and (pe_cmpR op_lt (pv 1) (pe_callB call_len_seq (by rfl) T.bLen PySem.boot_len (pa_cons (pe_ix ix_list (pv 0) pe_int (fun _ _ => rfl)) pa_nil)) (nomark _))
      (pe_one (pe_ix ix_list (pe_ix ix_list (pv 0) pe_int (fun _ _ => rfl)) (pv 1) (fun _ _ => rfl)))))), ?_⟩
    unfold openM at q
    refine ⟨_, rfl, _, _, rfl, rfl, _, rfl, ?_⟩
    refine ite2 (fun h0 => ?_) (fun h0 => ?_)
    · have h0 : 0 ≤ x := of_decide_eq_true h0
      refine ⟨_, rfl, _, rfl, p, _, _, _, rfl, rfl, SqL.of M.ob, rfl, l, _, rfl, .inl (SqL.of M.hl), _, _, rfl, rfl, _, rfl, ?_⟩
      rw [List.length_map]
      refine ite2 (fun h1 => ?_) (fun h1 => ?_)
      · have h1 : x < m.regs.length := of_decide_eq_true h1
        have hn : x.toNat < m.regs.length := by omega
        rw [decide_eq_true (⟨h0, h1⟩ : 0 ≤ x ∧ x < (m.regs.length : Int)), Bool.true_and, List.getElem?_eq_getElem hn] at q
        exact ⟨_, rfl, p, _, _, _, rfl, rfl, SqL.of M.ob, rfl, _, rfl, l, _, _, _, rfl, rfl, SqL.of M.hl, at_of (j := x.toNat) (by omega) (map_nth _ (List.getElem?_eq_getElem hn)), q⟩
      · have h1 : ¬ x < m.regs.length := fun z => h1 (decide_eq_true z)
        rw [decide_eq_false (fun z : 0 ≤ x ∧ x < (m.regs.length : Int) => h1 z.2), Bool.false_and] at q
        exact q
    · have h0 : ¬ 0 ≤ x := fun z => h0 (decide_eq_true z)
      rw [decide_eq_false (fun z : 0 ≤ x ∧ x < (m.regs.length : Int) => h0 z.1), Bool.false_and] at q
      exact q
theorem scDe : FnScope nDe ["_law_state", "_law_store", "_law_model", "_law_known"] (defScope lDeed) := ⟨rfl, rfl, rfl, by decide +kernel, rfl, by decide +kernel, by decide +kernel⟩
theorem ok_deed {f : Addr} {fd : FuncData} (F : Fun K "_law_deed" "_law_deed" lDeed f fd) (T : Txt K mg CS CR) (ST : EscR.SeTxt P K mg C fI cc cda) (cD : C8.Cal P wd K mg base 1 "_law_draw" spDraw []) (cR : C8.Cal P wd K mg base 2 "_law_region" spLRegion []) (cO : C8.Cal P wd K mg base 1 "_law_open" spLOpen []) (hO : CalH P wd K mg base 1 "_law_open" spLOpen)
    (cI : C8.Cal P wd K mg base 1 "_law_is_integer" spIsInt []) (cB : C8.Cal P wd K mg base 1 "_law_begin" spLBegin []) (cM : C8.Cal P wd K mg base 4 "_law_make" (spMake CS CR) []) (cE : C8.Cal P wd K mg base 1 "_law_end" spLEnd []) (cA : C8.Cal P wd K mg base 2 "_law_address" spLAddress []) (cW : C8.Cal P wd K mg base 2 "_law_write" spLWrite []) (cRd : C8.Cal P wd K mg base 2 "_law_read" spLRead [])
    (mB : C8.Met P wd K mg base 3 CS "begin" (spBegin CS CR) []) (mE : MetN P wd K mg base 3 CS "end" (spEnd CS CR C)) (mW : C8.Met P wd K mg base 2 CS "write" (spWrite CS CR) []) (mRd : C8.Met P wd K mg base 2 CS "read" (spRead CS CR) []) :
    FnOk P wd K mg base CX0 5 f fd ["_law_state", "_law_store", "_law_model", "_law_known"] (spDeed CS CR) := by
  refine F.ok scDe (fun vs H Q E h => ?_) (fun cdv A outer sh H vs Q E hr h => ?_)
  · obtain ⟨st, sc, ns, F1, F2, p, q, kn, m, ks, rfl, _⟩ := h
    rfl
  · obtain ⟨st, sc, ns, F1, F2, p, q, kn, m, ks, rfl, T0, wf, hl, hrl, hkl, fin⟩ := h
    have hnl := norm_len m
    have hwl := wf.len
    have hrH : L2H.RoomH 4 (A.deeper (PyProof.Rows.envOfC "_law_deed" (defScope lDeed) sh.heap.objs.size f cdv)) := L2H.roomH_of hr
    -- from the address on
    obtain ⟨t4, ht4, rd4⟩ : ∃ t, PSs (cxOf CX0 P wd K mg base nDe "_law_deed" (defScope lDeed) f cdv A outer sh H E).nox ((defBody lDeed).drop 4) t ∧
        ∀ (H2 : Hp) (x : Int), Sit CS CR H2 st sc ns F1 F2 p q kn (norm m) m ks → Mv st (foot F1 F2 kn) (foot F1 F2 kn) H H2 →
          t { nx := fun _ H' => Q .non H', rt := Q } [some (.ref st), some (.ref p), some (.ref q), some (.ref kn), some (.int x), none, none, none, none, none] H2 := by
      refine ⟨_, pss_cons (ps_set (i := 8) scDe.nd rfl (Or.inl rfl) (C8.pe_c cA hr (by decide) rfl (pa_cons (pv 0) (pa_cons (pv 2) (pa_cons (pv 3) pa_nil)))))
        (pss_cons (ps_if (pt_cmpR op_lt (pv 4) pe_int (nomark _))
          (pss_cons (ps_set (i := 9) scDe.nd rfl (Or.inl rfl) (pe_op op_sub (pe_op op_add (pe_op op_mul (C8.pe_c cD hr (by decide) rfl (pa_cons (pv 0) (pa_cons (pe_op op_pow pe_int pe_int) pa_nil))) (pe_op op_pow pe_int pe_int)) (C8.pe_c cD hr (by decide) rfl (pa_cons (pv 0) (pa_cons pe_int pa_nil)))) pe_int))
          (pss_cons (ps_expr (C8.pe_c cW hr (by decide) rfl (pa_cons (pv 2) (pa_cons (pv 8) (pa_cons (pv 9) pa_nil)))))
          (pss_one (ps_ret (pe_cmp (pc_isN (C8.pe_mt mW hr (by decide) (pv 1) (pa_cons (pv 8) (pa_cons (pv 9) pa_nil))))))))) pss_nil)
        (pss_cons (ps_set (i := 5) scDe.nd rfl (Or.inl rfl) (C8.pe_mt mRd hr (by decide) (pv 1) (pa_cons (pv 8) pa_nil)))
        (pss_one (ps_ret (pe_and (C8.pe_c cI hr (by decide) rfl (pa_cons (pv 5) pa_nil)) (pe_one (pe_cmpR op_eq (pv 5) (C8.pe_c cRd hr (by decide) rfl (pa_cons (pv 2) (pa_cons (pv 8) pa_nil))) (nomark _)))))))), ?_⟩
      intro H2 x T2 v2
      obtain ⟨o', w', l', s', a', ss, M2⟩ := T2.D.m
      refine ⟨_, rfl, _, rfl, _, rfl, st, sc, ns, q, F2, m, o', w', l', s', a', ss, kn, ks, rfl, T2.S, M2, fun f => T2.n1 (.inr (.inl f)), T2.D.k, fun e => T2.n1 (.inr (.inr e.symm)), by omega, by omega, fun H3 ad S3 o3 => ?_⟩
      have R3 := T2.draw S3 o3
      have v3 := v2.trans R3.2 T2.stl
      refine ⟨_, rfl, _, _, rfl, rfl, _, rfl, ?_⟩
      refine ite2 (fun _ => ?_) (fun _ => ?_)
      · refine ⟨_, rfl, _, _, rfl, rfl, ⟨by decide, by decide, by decide⟩, st, sc, ns, _, rfl, S3, by decide, by decide, fun H4 y S4 o4 y0 y1 => ?_⟩
        have R4 := R3.1.draw S4 o4
        have v4 := v3.trans R4.2 R3.1.stl
        refine ⟨_, _, rfl, rfl, ⟨by decide, by decide, by decide⟩, _, _, rfl, rfl, .inr ⟨by decide, by decide⟩, ?_⟩
        refine ⟨_, rfl, st, sc, ns, _, rfl, S4, by decide, by decide, fun H5 u S5 o5 u0 u1 => ?_⟩
        have R5 := R4.1.draw S5 o5
        have v5 := v4.trans R5.2 R4.1.stl
        refine ⟨_, _, rfl, rfl, _, _, rfl, rfl, ?_⟩
        obtain ⟨o', w', l', s', a', ss, M5⟩ := R5.1.D.m
        refine ⟨_, rfl, _, rfl, _, rfl, q, F2, m, o', w', l', s', a', ss, ad, _, rfl, M5, wf, by omega, fun H6 M6 c6 => ?_⟩
        have R6 := R5.1.model M6 c6
        have v6 := v5.trans R6.2 R5.1.stl
        obtain ⟨w, o, rr, as, S6⟩ := R6.1.D.s
        obtain ⟨dx, hp⟩ := S6.ob
        refine ⟨_, rfl, p, dx, _, rfl, hp, rfl, _, rfl, _, rfl, p, F1, norm m, w, o, rr, as, ad, _, rfl, S6, wf_norm wf, by show m.words.length < 10000; omega, fun H7 S7 c7 => ?_⟩
        have R7 := R6.1.store S7 c7
        have v7 := v6.trans R7.2 R6.1.stl
        have hwr := write_len m ad (y * 2 ^ (35 : Int).toNat + u - 4)
        have T7 := R7.1
        rw [← norm_write] at T7
        exact fin _ _ _ _ _ T7 v7 (wf_write wf _ _) (by rw [hwr.1]; omega) (by rw [hwr.2]; omega) (by omega)
      · obtain ⟨w, o, rr, as, S3'⟩ := R3.1.D.s
        obtain ⟨dx, hp⟩ := S3'.ob
        obtain ⟨o', w', l', s', a', ss, M3⟩ := R3.1.D.m
        refine ⟨_, rfl, p, dx, _, rfl, hp, rfl, _, rfl, p, F1, norm m, w, o, rr, as, ad, rfl, S3', wf_norm wf, by show m.words.length < 10000; omega, ?_⟩
        refine ⟨_, rfl, _, rfl, true, rfl, ?_⟩
        refine ⟨_, rfl, _, rfl, _, rfl, q, F2, m, o', w', l', s', a', ss, ad, rfl, M3, wf, by omega, rfl, ?_⟩
        have e : decide (V.int (readM (norm m) ad) = V.int (readM m ad)) = true := decide_eq_true rfl
        rw [e]
        exact fin _ _ _ m ks R3.1 v3 wf (by omega) (by omega) (by omega)
    -- the end of a region
    obtain ⟨t3, ht3, rd3⟩ : ∃ t, PSs (cxOf CX0 P wd K mg base nDe "_law_deed" (defScope lDeed) f cdv A outer sh H E).nox ((defBody lDeed).drop 3) t ∧
        ∀ (H2 : Hp) (x : Int), Sit CS CR H2 st sc ns F1 F2 p q kn (norm m) m ks → Mv st (foot F1 F2 kn) (foot F1 F2 kn) H H2 →
          t { nx := fun _ H' => Q .non H', rt := Q } [some (.ref st), some (.ref p), some (.ref q), some (.ref kn), some (.int x), none, none, none, none, none] H2 := by
      refine ⟨_, pss_cons (ps_if (pt_cmpR op_eq (pv 4) pe_int (nomark _))
          (pss_cons (ps_set (i := 6) scDe.nd rfl (Or.inl rfl) (C8.pe_c cR hr (by decide) rfl (pa_cons (pv 0) (pa_cons (pv 2) pa_nil))))
          (pss_cons (L2N.ps_try_as (i := 7) (tb := fun W => tDrop (L2H.tMethH CS "end" (spEnd CS CR C) (WE W) (tVar 1) (tCons (tVar 6) tNil)))
              (ts := fun a cls d => tRet (tAndV (tNotV (tCallS spLOpen (fun _ => C8.E0) (tCons (tVar 2) (tCons (tVar 6) tNil)))) (tOp rEq (tXf a cls d C "reason" (tVar 7)) (tC (.str errR))))) (Wout := fun _ _ _ _ => False) rfl rfl scDe.nd rfl rfl ⟨rfl, by decide, Or.inl ST.gC⟩ takesN0
            (fun W pn xe tk _ => pss_one (ps_expr (by exact (pe_mtS mE tk hr (by decide) (pv 1) (by exact (pa_cons (pv 6) pa_nil))))))
            (fun a oe cls d pn hz hf => pss_one (ps_ret (pe_and (pe_not (by exact pe_cH (j := 4) hO (by exact ⟨hrH.dp, hrH.un⟩) (by decide) (hot_of hz hf) rfl (by exact (pa_cons (pv 2) (pa_cons (pv 6) pa_nil))))) (pe_one (pe_cmpR op_eq (by exact pe_xf (xfc ST) ST.noN hz.zc hf (pv 7)) (by exact pe_str) (nomark _)))))))
          (pss_cons (ps_if (pt_not (pt_val (C8.pe_c cO hr (by decide) rfl (pa_cons (pv 2) (pa_cons (pv 6) pa_nil))))) (pss_one (ps_ret pe_bl)) pss_nil)
          (pss_cons (ps_expr (C8.pe_c cE hr (by decide) rfl (pa_cons (pv 2) (pa_cons (pv 6) pa_nil)))) (pss_one (ps_ret pe_bl)))))) pss_nil) ht4, ?_⟩
      intro H2 x T2 v2
      refine ⟨_, rfl, rfl, _, rfl, ?_⟩
      refine ite2 (fun _ => ?_) (fun _ => rd4 H2 x T2 v2)
      obtain ⟨o', w', l', s', a', ss, M2⟩ := T2.D.m
      refine ⟨_, rfl, _, rfl, st, sc, ns, q, F2, m, o', w', l', s', a', ss, rfl, T2.S, M2, by omega, fun H3 r S3 o3 r0 r1 => ?_⟩
      have R3 := T2.draw S3 o3
      have v3 := v2.trans R3.2 T2.stl
      have oN := open_norm m r
      obtain ⟨w, o, rr, as, S3'⟩ := R3.1.D.s
      obtain ⟨dx, hp⟩ := S3'.ob
      refine ⟨_, rfl, p, dx, _, rfl, hp, rfl, _, rfl, p, F1, norm m, w, o, rr, as, r, rfl, S3', wf_norm wf, by show m.owners.length ≤ 500; omega, fun ho d hd => ⟨true, ST.te, fun _ a ha => ?_, fun z => Bool.noConfusion z⟩, fun ho z2 hz2 H4 S4 c4 => ?_⟩
      · rw [oN] at ho
        have R4 := R3.1.same (same_new (o := reasonD errR) hd)
        obtain ⟨o', w', l', s', a', ss, M4⟩ := R4.1.D.m
        refine ⟨_, rfl, _, rfl, q, F2, m, o', w', l', s', a', ss, r, rfl, M4, _, rfl, _, rfl, ite_yes (by rw [ho]; rfl) ?_⟩
        refine ⟨_, rfl, rfl, rfl, d, _, _, rfl, upd_same, reason_get _, rfl, ?_⟩
        have e : decide (V.str errR = V.str errR) = true := decide_eq_true rfl
        show Q (.bl (decide (V.str errR = V.str errR))) _
        rw [e]
        exact fin _ _ _ m ks R4.1 (v3.trans R4.2 R3.1.stl) wf (by omega) (by omega) (by omega)
      · rw [oN] at ho
        obtain ⟨g0, g1, z, hz, hlv⟩ := open_reg ho
        obtain ⟨j, rfl⟩ : ∃ j : Nat, r = (j : Int) := ⟨r.toNat, by omega⟩
        rw [Int.toNat_natCast] at hz hz2 S4
        have ez : nz z = z2 := Option.some.inj ((norm_get hz).symm.trans hz2)
        subst ez
        rw [← norm_end] at S4
        have R4 := R3.1.store S4 c4
        obtain ⟨o', w', l', s', a', ss, M4⟩ := R4.1.D.m
        refine ⟨_, rfl, _, rfl, q, F2, m, o', w', l', s', a', ss, (j : Int), rfl, M4, _, rfl, ite_no (by rw [ho]; rfl) ?_⟩
        refine ⟨_, rfl, _, rfl, q, F2, m, o', w', l', s', a', ss, j, z, rfl, M4, wf, by omega, hz, fun H5 M5 c5 => ?_⟩
        have R5 := R4.1.model M5 c5
        have he := end_len m j z
        exact fin _ _ _ _ ks R5.1 ((v3.trans R4.2 R3.1.stl).trans R5.2 R4.1.stl) (wf_end wf hz) (by omega) (by omega) (by omega)
    -- begin
    obtain ⟨t2, ht2, rd2⟩ : ∃ t, PSs (cxOf CX0 P wd K mg base nDe "_law_deed" (defScope lDeed) f cdv A outer sh H E).nox ((defBody lDeed).drop 2) t ∧
        ∀ (H2 : Hp) (x : Int), Sit CS CR H2 st sc ns F1 F2 p q kn (norm m) m ks → Mv st (foot F1 F2 kn) (foot F1 F2 kn) H H2 →
          t { nx := fun _ H' => Q .non H', rt := Q } [some (.ref st), some (.ref p), some (.ref q), some (.ref kn), some (.int x), none, none, none, none, none] H2 := by
      refine ⟨_, pss_cons (ps_if (pt_cmpR op_lt (pv 4) pe_int (nomark _)) (pss_one (ps_ret (C8.pe_c cM hr (by decide) rfl (pa_cons (pv 0) (pa_cons (pv 1) (pa_cons (pv 2) (pa_cons (pv 3) pa_nil))))))) pss_nil) ht3, ?_⟩
      intro H2 x T2 v2
      refine ⟨_, rfl, _, _, rfl, rfl, _, rfl, ?_⟩
      refine ite2 (fun _ => ?_) (fun _ => rd3 H2 x T2 v2)
      exact ⟨_, rfl, _, rfl, _, rfl, _, rfl, st, sc, ns, F1, F2, p, q, kn, m, ks, rfl, T2, wf, hl, by omega, hkl, fun H3 m' ks' T3 v3 wf' h1 h2 h3 => fin H3 F1 F2 m' ks' T3 (v2.trans v3 T2.stl) wf' h1 (by omega) h3⟩
    refine ⟨_, pss_cons (ps_set (i := 4) scDe.nd rfl (Or.inl rfl) (C8.pe_c cD hr (by decide) rfl (pa_cons (pv 0) (pa_cons pe_int pa_nil))))
      (pss_cons (ps_if (PW.pt (pw_or (pt_cmpR op_eq (pv 4) pe_int (nomark _)) (pw_or1 (pt_not (pt_truth (pe_ix ix_list (pv 2) pe_int (fun _ _ => rfl)) (by intro _; rfl))))))
        (pss_cons (ps_set (i := 5) scDe.nd rfl (Or.inl rfl) (C8.pe_mt0 mB hr (by decide) (pv 1)))
        (pss_one (ps_ret (pe_and (C8.pe_c cI hr (by decide) rfl (pa_cons (pv 5) pa_nil)) (pe_one (pe_cmpR op_eq (pv 5) (C8.pe_c cB hr (by decide) rfl (pa_cons (pv 2) pa_nil)) (nomark _))))))) pss_nil) ht2), ?_⟩
    refine ⟨_, rfl, st, sc, ns, _, rfl, T0.S, by decide, by decide, fun H1 x S1 o1 x0 x1 => ?_⟩
    have R1 := T0.draw S1 o1
    have go : tSeq (tAsg (tMeth CS "begin" (spBegin CS CR) [] C8.E0 (tVar 1) tNil) (gName 5)) (tRet (tAndV (tCall spIsInt [] C8.E0 (tCons (tVar 5) tNil)) (tOp rEq (tVar 5) (tCall spLBegin [] C8.E0 (tCons (tVar 2) tNil))))) { nx := fun σ H' => t2 { nx := fun _ H' => Q .non H', rt := Q } σ H', rt := Q } [some (.ref st), some (.ref p), some (.ref q), some (.ref kn), some (.int x), none, none, none, none, none] H1 := by
      obtain ⟨w, o, rr, as, S1'⟩ := R1.1.D.s
      obtain ⟨dx, hp⟩ := S1'.ob
      refine ⟨_, rfl, p, dx, _, rfl, hp, rfl, p, F1, norm m, w, o, rr, as, rfl, S1', by omega, fun H2 F1' a S2 c2 => ?_⟩
      rw [← norm_begin] at S2
      have R2 := R1.1.store S2 c2
      obtain ⟨o', w', l', s', a', ss, M2⟩ := R2.1.D.m
      refine ⟨_, rfl, _, rfl, true, rfl, ?_⟩
      refine ⟨_, rfl, _, rfl, q, F2, m, o', w', l', s', a', ss, rfl, M2, by omega, fun H3 F2' qq M3 c3 => ⟨rfl, ?_⟩⟩
      have R3 := R2.1.model M3 c3
      have e : decide (V.int (norm m).regs.length = V.int m.regs.length) = true := decide_eq_true (by rw [hnl])
      rw [e]
      have hb := begin_len m
      exact fin _ _ _ _ ks R3.1 ((R1.2.trans R2.2 R1.1.stl).trans R3.2 R2.1.stl) (wf_begin wf) (by omega) (by omega) (by omega)
    refine ⟨_, rfl, rfl, _, rfl, ?_⟩
    refine ite2 (fun _ => go) (fun _ => ?_)
    obtain ⟨o', w', l', s', a', ss, M1⟩ := R1.1.D.m
    refine ⟨_, rfl, q, _, _, _, rfl, rfl, SqL.of M1.ob, rfl, _, .inl ⟨_, SqL.of M1.hl, rfl⟩, ?_⟩
    exact ite2 (fun _ => go) (fun _ => rd2 H1 x R1.1 R1.2)
end
end Esc

/-! Two stores with their models. -/
namespace Esc
open PySem L2 EscR
structure Tr where
  F1 : Ft
  F2 : Ft
  p : Addr
  q : Addr
  kn : Addr
  m : Mem
  ks : List Int
def Tr.ft (t : Tr) : Ft := foot t.F1 t.F2 t.kn
structure Bnd (t : Tr) (i : Nat) : Prop where
  o : t.m.owners.length ≤ 5 * i
  r : t.m.regs.length ≤ i
  k : t.ks.length ≤ i
theorem Bnd.mono {t : Tr} {i j : Nat} (b : Bnd t i) (h : i ≤ j) : Bnd t j := ⟨by have := b.o; omega, by have := b.r; omega, by have := b.k; omega⟩
structure Two (CS CR : Addr) (H : Hp) (st sc : Addr) (ns : List Int) (x y : Tr) : Prop where
  a : Sit CS CR H st sc ns x.F1 x.F2 x.p x.q x.kn (norm x.m) x.m x.ks
  b : Sit CS CR H st sc ns y.F1 y.F2 y.p y.q y.kn (norm y.m) y.m y.ks
  dis : ∀ b, x.ft b → ¬ y.ft b
  wa : Wf x.m
  wb : Wf y.m
section
variable {CS CR : Addr} {H H' : Hp} {st sc : Addr} {ns : List Int} {x y x' : Tr}
theorem Two.swap (T : Two CS CR H st sc ns x y) : Two CS CR H st sc ns y x := ⟨T.b, T.a, fun b f g => T.dis b g f, T.wb, T.wa⟩
theorem Two.draw (T : Two CS CR H st sc ns x y) (S : StateAt H' st sc ns) (o : Only st H H') : Two CS CR H' st sc ns x y := ⟨(T.a.draw S o).1, (T.b.draw S o).1, T.dis, T.wa, T.wb⟩
theorem Two.step (T : Two CS CR H st sc ns x y) (A : Sit CS CR H' st sc ns x'.F1 x'.F2 x'.p x'.q x'.kn (norm x'.m) x'.m x'.ks) (v : Mv st x.ft x'.ft H H') (w : Wf x'.m) : Two CS CR H' st sc ns x' y where
  a := A
  b := ⟨A.S, T.b.D.mono fun b u f e => v.kp b u e (fun g => T.dis b g f) fun e => T.b.n1 (by rw [← e]; exact f), T.b.n1, T.b.n2⟩
  dis := fun b f g => by
    rcases v.nw b f with z | z
    · exact T.dis b z g
    · obtain ⟨u, e⟩ := T.b.D.live b g
      rw [z] at e
      cases e
  wa := w
  wb := T.wb
end
/-- what the law's frame points to -/
structure LawAt (CS CR : Addr) (H : Hp) (st sc : Addr) (ns : List Int) (sl ml kl : Addr) (x y : Tr) (i : Nat) : Prop where
  two : Two CS CR H st sc ns x y
  hs : H sl = some (.lst [.ref x.p, .ref y.p])
  hm : H ml = some (.lst [.ref x.q, .ref y.q])
  hk : H kl = some (.lst [.ref x.kn, .ref y.kn])
  off : ∀ b, b = sl ∨ b = ml ∨ b = kl → ¬ x.ft b ∧ ¬ y.ft b ∧ b ≠ st
  bx : Bnd x i
  by_ : Bnd y i
section
variable {CS CR : Addr} {H H' : Hp} {st sc sl ml kl : Addr} {ns : List Int} {x y x' : Tr} {i : Nat}
theorem LawAt.draw (L : LawAt CS CR H st sc ns sl ml kl x y i) (S : StateAt H' st sc ns) (o : Only st H H') : LawAt CS CR H' st sc ns sl ml kl x y i :=
  ⟨L.two.draw S o, by rw [o _ (L.off sl (.inl rfl)).2.2]; exact L.hs, by rw [o _ (L.off ml (.inr (.inl rfl))).2.2]; exact L.hm, by rw [o _ (L.off kl (.inr (.inr rfl))).2.2]; exact L.hk, L.off, L.bx, L.by_⟩
theorem LawAt.stepX (L : LawAt CS CR H st sc ns sl ml kl x y i) (T : Two CS CR H' st sc ns x' y) (v : Mv st x.ft x'.ft H H') (ep : x'.p = x.p) (eq : x'.q = x.q) (ek : x'.kn = x.kn) (b : Bnd x' (i + 1)) : LawAt CS CR H' st sc ns sl ml kl x' y (i + 1) where
  two := T
  hs := by
    obtain ⟨a, _, c⟩ := L.off sl (.inl rfl)
    rw [ep]
    exact v.kp _ _ L.hs a c
  hm := by
    obtain ⟨a, _, c⟩ := L.off ml (.inr (.inl rfl))
    rw [eq]
    exact v.kp _ _ L.hm a c
  hk := by
    obtain ⟨a, _, c⟩ := L.off kl (.inr (.inr rfl))
    rw [ek]
    exact v.kp _ _ L.hk a c
  off := fun b hb => by
    obtain ⟨a, c, d⟩ := L.off b hb
    refine ⟨fun f => ?_, c, d⟩
    rcases v.nw b f with z | z
    · exact a z
    · rcases hb with rfl | rfl | rfl
      · rw [L.hs] at z
        cases z
      · rw [L.hm] at z
        cases z
      · rw [L.hk] at z
        cases z
  bx := b
  by_ := L.by_.mono (Nat.le_succ _)
theorem LawAt.stepY {y' : Tr} (L : LawAt CS CR H st sc ns sl ml kl x y i) (T : Two CS CR H' st sc ns y' x) (v : Mv st y.ft y'.ft H H') (ep : y'.p = y.p) (eq : y'.q = y.q) (ek : y'.kn = y.kn) (b : Bnd y' (i + 1)) : LawAt CS CR H' st sc ns sl ml kl x y' (i + 1) where
  two := T.swap
  hs := by
    obtain ⟨_, a, c⟩ := L.off sl (.inl rfl)
    rw [ep]
    exact v.kp _ _ L.hs a c
  hm := by
    obtain ⟨_, a, c⟩ := L.off ml (.inr (.inl rfl))
    rw [eq]
    exact v.kp _ _ L.hm a c
  hk := by
    obtain ⟨_, a, c⟩ := L.off kl (.inr (.inr rfl))
    rw [ek]
    exact v.kp _ _ L.hk a c
  off := fun b hb => by
    obtain ⟨c, a, d⟩ := L.off b hb
    refine ⟨c, fun f => ?_, d⟩
    rcases v.nw b f with z | z
    · exact a z
    · rcases hb with rfl | rfl | rfl
      · rw [L.hs] at z
        cases z
      · rw [L.hm] at z
        cases z
      · rw [L.hk] at z
        cases z
  bx := L.bx.mono (Nat.le_succ _)
  by_ := b
end
def forBody : Stmt → List Stmt
  | .For _ _ b _ _ => b
  | _ => []
theorem pe_c0 {X : Cx} {k j : Nat} {x : Str} {sp : Sp} {p pos : Pos} (c : C8.Cal X.prog X.w X.K X.mg X.base k x sp []) (hr : Room j X.A) (hk : k ≤ j) (hg : Gl X x) (hdb : (x == ("__debug__" : Str)) = false := by decide) : PE X (.Call (.Name x p) [] [] pos) (tCall sp [] C8.E0 tNil) := by
  obtain ⟨f, fd, ps, ds, F, hm, kp, b, d⟩ := c.ex
  exact pe_call0 F (hr.mono hk) hg hm kp b d C8.pass0 hdb
end Esc

/-! The law. -/
namespace Esc
open PySem L2 EscR
def spLaw (K : PySem.W.Frag) : Sp := fun vs H Q _ => ∃ (a : Addr) (ns : List Int), vs = [.ref a] ∧ SqL K H a (ns.map V.int) ∧ ns.length ≤ 63 ∧ ∀ H', Q (.bl true) H'
def nLw : List Str := ["_law_script", "_law_state", "_law_stores", "_law_models", "_law_known", "_law_k", "_law_which", "_law_store", "_law_model", "_law_address_here"]
abbrev fBody : List Stmt := forBody ((defBody lLaw).getD 4 (.Pass ⟨0, 0, 0, 0⟩))
theorem two_nth {x y z : Addr} {w : Int} {j : Nat} (hw : w = (j : Int)) (h : ([x, y] : List Addr)[j]? = some z) : atI [V.ref x, V.ref y] w = some (V.ref z) := at_of hw (map_nth V.ref (l := [x, y]) h)
section
variable {P : Program} {wd : World} {K : PySem.W.Frag} {mg : Str → Option Value} {base : Heap} {CS CR : Addr}
theorem scLw : FnScope nLw ["_law_script"] (defScope lLaw) := ⟨rfl, rfl, rfl, by decide +kernel, rfl, by decide +kernel, by decide +kernel⟩
theorem ok_law {f : Addr} {fd : FuncData} (F : Fun K "law" "law" lLaw f fd) (T : Txt K mg CS CR) (cSt : C8.Cal P wd K mg base 1 "_law_start" (spStart K) []) (cD : C8.Cal P wd K mg base 1 "_law_draw" spDraw []) (cN : C8.Cal P wd K mg base 1 "_law_new" spNew []) (cDe : C8.Cal P wd K mg base 5 "_law_deed" (spDeed CS CR) []) (cA : C8.Cal P wd K mg base 2 "_law_address" spLAddress [])
    (cO : C8.Cal P wd K mg base 1 "_law_owner" spLOwner []) (cRd : C8.Cal P wd K mg base 2 "_law_read" spLRead []) (cSa : C8.Cal P wd K mg base 5 "_law_same" (spLSame CS CR) [])
    (kS : C8.Mak P wd K mg base 1 "Store" CS (spStore CS CR) []) (mO : C8.Met P wd K mg base 1 CS "owner" (spOwner CS CR) []) (mC : C8.Met P wd K mg base 1 CS "__contains__" (spContains CS CR) []) (mR : C8.Met P wd K mg base 2 CS "read" (spRead CS CR) []) :
    FnOk P wd K mg base CX0 6 f fd ["_law_script"] (spLaw K) := by
  refine F.ok scLw (fun vs H Q E h => ?_) (fun cdv A outer sh H vs Q E hr h => ?_)
  · obtain ⟨a, ns, rfl, _⟩ := h
    rfl
  · obtain ⟨a, ns, rfl, hS, hlen, fin⟩ := h
    -- one turn, behind the choice
    obtain ⟨t3, ht3, rd3⟩ : ∃ t, PSs (cxOf CX0 P wd K mg base nLw "law" (defScope lLaw) f cdv A outer sh H E).nox (fBody.drop 3) t ∧
        ∀ (D : Ends) (H2 : Hp) (st sc sl ml kl : Addr) (x y : Tr) (i wh : Int) (j : Nat) (k0 k1 : Addr) (v9 : Option V), Two CS CR H2 st sc ns x y → H2 kl = some (.lst [.ref k0, .ref k1]) → wh = (j : Int) → ([k0, k1] : List Addr)[j]? = some x.kn → ¬ x.ft kl → kl ≠ st → x.m.owners.length ≤ 440 → x.m.regs.length < 880 → x.ks.length < 880 →
          (∀ (H' : Hp) (x' : Tr) (v : Option V), Two CS CR H' st sc ns x' y → x'.p = x.p → x'.q = x.q → x'.kn = x.kn → x'.m.owners.length ≤ x.m.owners.length + 5 → x'.m.regs.length ≤ x.m.regs.length + 1 → x'.ks.length ≤ x.ks.length + 1 → Mv st x.ft x'.ft H2 H' →
            D.nx [some (.ref a), some (.ref st), some (.ref sl), some (.ref ml), some (.ref kl), some (.int i), some (.int wh), some (.ref x.p), some (.ref x.q), v] H') →
          t D [some (.ref a), some (.ref st), some (.ref sl), some (.ref ml), some (.ref kl), some (.int i), some (.int wh), some (.ref x.p), some (.ref x.q), v9] H2 := by
      refine ⟨_, pss_cons (ps_if (pt_not (pt_val (C8.pe_c cDe hr (by decide) rfl (pa_cons (pv 1) (pa_cons (pv 7) (pa_cons (pv 8) (pa_cons (pe_ix ix_list (pv 4) (pv 6) (fun _ _ => rfl)) pa_nil))))))) (pss_one (ps_ret pe_bl)) pss_nil)
        (pss_cons (ps_set (i := 9) scLw.nd rfl (Or.inl rfl) (C8.pe_c cA hr (by decide) rfl (pa_cons (pv 1) (pa_cons (pv 8) (pa_cons (pe_ix ix_list (pv 4) (pv 6) (fun _ _ => rfl)) pa_nil)))))
        (pss_cons (ps_if (pt_cmpR op_ne (C8.pe_mt mO hr (by decide) (pv 7) (pa_cons (pv 9) pa_nil)) (C8.pe_c cO hr (by decide) rfl (pa_cons (pv 8) (pa_cons (pv 9) pa_nil))) (nomark _)) (pss_one (ps_ret pe_bl)) pss_nil)
        (pss_cons (ps_if (pt_cmpR op_ne (pe_cmpR (op_inM mC hr (by decide)) (pv 9) (pv 7) (by rfl)) (pe_and (pe_cmpR op_ge (pv 9) pe_int (nomark _)) (pe_one (pe_cmpR op_lt (pv 9) (pe_callB call_len_seq (by rfl) T.bLen PySem.boot_len (pa_cons (pe_ix ix_list (pv 8) pe_int (fun _ _ => rfl)) pa_nil)) (nomark _)))) (nomark _)) (pss_one (ps_ret pe_bl)) pss_nil)
        (pss_one (ps_if (pt_cmpR op_ne (C8.pe_mt mR hr (by decide) (pv 7) (pa_cons (pv 9) pa_nil)) (C8.pe_c cRd hr (by decide) rfl (pa_cons (pv 8) (pa_cons (pv 9) pa_nil))) (nomark _)) (pss_one (ps_ret pe_bl)) pss_nil))))), ?_⟩
      intro D H2 st sc sl ml kl x y i wh j k0 k1 v9 T2 hkl hwh hj nkl nks ho hrg hks nx
      have hk2 := two_nth hwh hj
      refine ⟨_, rfl, _, rfl, _, rfl, _, rfl, _, rfl, kl, _, _, _, rfl, rfl, SqL.of hkl, hk2, st, sc, ns, x.F1, x.F2, x.p, x.q, x.kn, x.m, x.ks, rfl, T2.a, T2.wa, by omega, by omega, by omega, fun H3 F1' F2' m' ks' A3 v3 wf3 b1 b2 b3 => ⟨_, rfl, ite_no rfl ?_⟩⟩
      have T3 : Two CS CR H3 st sc ns ⟨F1', F2', x.p, x.q, x.kn, m', ks'⟩ y := T2.step (x' := ⟨F1', F2', x.p, x.q, x.kn, m', ks'⟩) A3 v3 wf3
      have hkl3 : H3 kl = some (.lst [.ref k0, .ref k1]) := v3.kp _ _ hkl nkl nks
      have hwl := wf3.len
      obtain ⟨o', w', l', s', a', ss, M3⟩ := A3.D.m
      refine ⟨_, rfl, _, rfl, _, rfl, _, rfl, kl, _, _, _, rfl, rfl, SqL.of hkl3, hk2, st, sc, ns, x.q, F2', m', o', w', l', s', a', ss, x.kn, ks', rfl, A3.S, M3, fun f => A3.n1 (.inr (.inl f)), A3.D.k, fun e => A3.n1 (.inr (.inr e.symm)), by omega, by omega, fun H4 ad S4 o4 => ?_⟩
      have T4 := T3.draw S4 o4
      have v4 : Mv st x.ft (foot F1' F2' x.kn) H2 H4 := v3.trans (Mv.only o4) (let ⟨_, _, _, _, e⟩ := A3.S.ob; ⟨_, e⟩)
      obtain ⟨o', w', l', s', a', ss, M4⟩ := T4.a.D.m
      obtain ⟨w, o, rr, as, S4'⟩ := T4.a.D.s
      obtain ⟨dx, hp⟩ := S4'.ob
      refine ⟨_, rfl, x.p, dx, _, rfl, hp, rfl, _, rfl, x.p, F1', norm m', w, o, rr, as, ad, rfl, S4', wf_norm wf3, by show m'.words.length < 10000; omega, ?_⟩
      refine ⟨_, rfl, _, rfl, x.q, F2', m', o', w', l', s', a', ss, ad, rfl, M4, wf3, by omega, rfl, _, rfl, ite_no (by rw [decide_eq_true (show V.int (ownerM (norm m') ad) = V.int (ownerM m' ad) from rfl)]; rfl) ?_⟩
      refine ⟨_, rfl, _, rfl, x.p, dx, _, rfl, hp, x.p, F1', norm m', w, o, rr, as, ad, rfl, S4', _, rfl, ?_⟩
      have last : tIfS (tTest (tOp rNe (tMeth CS "read" (spRead CS CR) [] C8.E0 (tVar 7) (tCons (tVar 9) tNil)) (tCall spLRead [] C8.E0 (tCons (tVar 8) (tCons (tVar 9) tNil))))) (tRet (tC (.bl false))) tNext D [some (.ref a), some (.ref st), some (.ref sl), some (.ref ml), some (.ref kl), some (.int i), some (.int wh), some (.ref x.p), some (.ref x.q), some (.int ad)] H4 := by
        refine ⟨_, rfl, x.p, dx, _, rfl, hp, rfl, _, rfl, x.p, F1', norm m', w, o, rr, as, ad, rfl, S4', wf_norm wf3, by show m'.words.length < 10000; omega, ?_⟩
        refine ⟨_, rfl, _, rfl, x.q, F2', m', o', w', l', s', a', ss, ad, rfl, M4, wf3, by omega, rfl, _, rfl, ite_no (by rw [decide_eq_true (show V.int (readM (norm m') ad) = V.int (readM m' ad) from rfl)]; rfl) ?_⟩
        exact nx H4 ⟨F1', F2', x.p, x.q, x.kn, m', ks'⟩ _ T4 rfl rfl rfl b1 b2 b3 v4
      refine ⟨_, rfl, _, _, rfl, rfl, _, rfl, ?_⟩
      have ew : (norm m').words = m'.words := rfl
      refine ite2 (fun h0 => ?_) (fun h0 => ?_)
      · have h0 := of_decide_eq_true h0
        refine ⟨_, rfl, _, rfl, x.q, _, _, _, rfl, rfl, SqL.of M4.ob, rfl, w', _, rfl, .inl (SqL.of M4.hw), _, _, rfl, rfl, rfl, _, rfl, ite_no ?_ last⟩
        rw [ivs_len, ew]
        show (!decide (V.bl (decide (0 ≤ ad ∧ ad < (m'.words.length : Int))) = V.bl (decide (ad < (m'.words.length : Int))))) = false
        by_cases h1 : ad < (m'.words.length : Int)
        · rw [decide_eq_true (⟨h0, h1⟩ : 0 ≤ ad ∧ ad < (m'.words.length : Int)), decide_eq_true h1]
          simp
        · rw [decide_eq_false (fun z : 0 ≤ ad ∧ ad < (m'.words.length : Int) => h1 z.2), decide_eq_false h1]
          simp
      · have h0 : ¬ 0 ≤ ad := fun z => h0 (decide_eq_true z)
        refine ⟨rfl, _, rfl, ite_no ?_ last⟩
        rw [ew, decide_eq_false (fun z : 0 ≤ ad ∧ ad < (m'.words.length : Int) => h0 z.1)]
        simp
    -- a whole turn
    obtain ⟨t0, ht0, rd0⟩ : ∃ t, PSs (cxOf CX0 P wd K mg base nLw "law" (defScope lLaw) f cdv A outer sh H E).nox fBody t ∧
        ∀ (D : Ends) (H2 : Hp) (st sc sl ml kl : Addr) (x y : Tr) (i : Nat) (z : Int) (v6 v7 v8 v9 : Option V), LawAt CS CR H2 st sc ns sl ml kl x y i → i < 80 →
          (∀ (H' : Hp) (x' y' : Tr) (v6 v7 v8 v9 : Option V), LawAt CS CR H' st sc ns sl ml kl x' y' (i + 1) →
            D.nx [some (.ref a), some (.ref st), some (.ref sl), some (.ref ml), some (.ref kl), some (.int z), v6, v7, v8, v9] H') →
          t D [some (.ref a), some (.ref st), some (.ref sl), some (.ref ml), some (.ref kl), some (.int z), v6, v7, v8, v9] H2 := by
      refine ⟨_, pss_cons (ps_set (i := 6) scLw.nd rfl (Or.inl rfl) (C8.pe_c cD hr (by decide) rfl (pa_cons (pv 1) (pa_cons pe_int pa_nil))))
        (pss_cons (ps_set (i := 7) scLw.nd rfl (Or.inl rfl) (pe_ix ix_list (pv 2) (pv 6) (fun _ _ => rfl)))
        (pss_cons (ps_set (i := 8) scLw.nd rfl (Or.inl rfl) (pe_ix ix_list (pv 3) (pv 6) (fun _ _ => rfl))) ht3)), ?_⟩
      intro D H2 st sc sl ml kl x y i z v6 v7 v8 v9 L hi nx
      refine ⟨_, rfl, st, sc, ns, _, rfl, L.two.a.S, by decide, by decide, fun H3 wh S3 o3 h0 h1 => ?_⟩
      have L3 := L.draw S3 o3
      obtain ⟨kx, ky, ks⟩ := L3.off kl (.inr (.inr rfl))
      have bx := L3.bx
      have by' := L3.by_
      have b1 := bx.o
      have b2 := bx.r
      have b3 := bx.k
      have c1 := by'.o
      have c2 := by'.r
      have c3 := by'.k
      have hw : wh = 0 ∨ wh = 1 := by omega
      rcases hw with rfl | rfl
      · refine ⟨_, rfl, _, rfl, sl, _, _, _, rfl, rfl, SqL.of L3.hs, two_nth (j := 0) (z := x.p) rfl rfl, ?_⟩
        refine ⟨_, rfl, _, rfl, ml, _, _, _, rfl, rfl, SqL.of L3.hm, two_nth (j := 0) (z := x.q) rfl rfl, ?_⟩
        refine rd3 D H3 st sc sl ml kl x y z 0 0 x.kn y.kn v9 L3.two L3.hk rfl rfl kx ks (by omega) (by omega) (by omega) fun H4 x' v T4 e1 e2 e3 g1 g2 g3 v4 => ?_
        exact nx H4 x' y _ _ _ _ (L3.stepX T4 v4 e1 e2 e3 ⟨by omega, by omega, by omega⟩)
      · refine ⟨_, rfl, _, rfl, sl, _, _, _, rfl, rfl, SqL.of L3.hs, two_nth (j := 1) (z := y.p) rfl rfl, ?_⟩
        refine ⟨_, rfl, _, rfl, ml, _, _, _, rfl, rfl, SqL.of L3.hm, two_nth (j := 1) (z := y.q) rfl rfl, ?_⟩
        refine rd3 D H3 st sc sl ml kl y x z 1 1 x.kn y.kn v9 L3.two.swap L3.hk rfl rfl ky ks (by omega) (by omega) (by omega) fun H4 x' v T4 e1 e2 e3 g1 g2 g3 v4 => ?_
        exact nx H4 x x' _ _ _ _ (L3.stepY T4 v4 e1 e2 e3 ⟨by omega, by omega, by omega⟩)
    -- the loop, the end
    obtain ⟨t5, ht5, rd5⟩ : ∃ t, PSs (cxOf CX0 P wd K mg base nLw "law" (defScope lLaw) f cdv A outer sh H E).nox ((defBody lLaw).drop 4) t ∧
        ∀ (H2 : Hp) (st sc sl ml kl : Addr) (x y : Tr), LawAt CS CR H2 st sc ns sl ml kl x y 0 →
          t { nx := fun _ H' => Q .non H', rt := Q } [some (.ref a), some (.ref st), some (.ref sl), some (.ref ml), some (.ref kl), none, none, none, none, none] H2 := by
      refine ⟨_, pss_cons (ps_for PassesOwn.never rfl (pi_range1 rfl T.bRange (pa_cons (pe_op op_add pe_int (C8.pe_c cD hr (by decide) rfl (pa_cons (pv 1) (pa_cons pe_int pa_nil)))) pa_nil)) (pg_name (i := 5) scLw.nd rfl (Or.inl rfl)) ht0)
        (pss_one (ps_ret (pe_and (C8.pe_c cSa hr (by decide) rfl (pa_cons (pe_ix ix_list (pv 2) pe_int (fun _ _ => rfl)) (pa_cons (pe_ix ix_list (pv 3) pe_int (fun _ _ => rfl)) pa_nil)))
          (pe_one (C8.pe_c cSa hr (by decide) rfl (pa_cons (pe_ix ix_list (pv 2) pe_int (fun _ _ => rfl)) (pa_cons (pe_ix ix_list (pv 3) pe_int (fun _ _ => rfl)) pa_nil))))))), ?_⟩
      intro H2 st sc sl ml kl x y L
      refine ⟨_, rfl, st, sc, ns, _, rfl, L.two.a.S, by decide, by decide, fun H3 n S3 o3 h0 h1 => ?_⟩
      have L3 := L.draw S3 o3
      refine ⟨_, _, rfl, rfl, _, rfl, by omega, by omega, ?_⟩
      have hn : (2 + n).toNat ≤ 80 := by omega
      refine for_range (fun i σ H' => ∃ (x y : Tr) (v5 v6 v7 v8 v9 : Option V), σ = [some (.ref a), some (.ref st), some (.ref sl), some (.ref ml), some (.ref kl), v5, v6, v7, v8, v9] ∧ LawAt CS CR H' st sc ns sl ml kl x y i) ⟨x, y, none, none, none, none, none, rfl, L3⟩ ?_ ?_
      · rintro i σ H4 hi ⟨x, y, v5, v6, v7, v8, v9, rfl, L4⟩
        exact rd0 _ H4 st sc sl ml kl x y i (0 + i) v6 v7 v8 v9 L4 (by omega) fun H5 x' y' w6 w7 w8 w9 L5 => ⟨x', y', _, _, _, _, _, rfl, L5⟩
      · rintro σ H4 ⟨x, y, v5, v6, v7, v8, v9, rfl, L4⟩
        obtain ⟨w, o, rr, as, S4⟩ := L4.two.a.D.s
        obtain ⟨o', w', l', s', a', ss, M4⟩ := L4.two.a.D.m
        have b1 := L4.bx.o
        have b2 := L4.bx.r
        have c1 := L4.by_.o
        have c2 := L4.by_.r
        have wx := L4.two.wa.len
        have wy := L4.two.wb.len
        refine ⟨_, rfl, sl, _, _, _, rfl, rfl, SqL.of L4.hs, two_nth (j := 0) (z := x.p) rfl rfl, _, rfl, ml, _, _, _, rfl, rfl, SqL.of L4.hm, two_nth (j := 0) (z := x.q) rfl rfl, x.p, x.q, x.F1, x.F2, x.m, w, o, rr, as, o', w', l', s', a', ss, rfl, S4, M4, L4.two.wa, by omega, by omega, fun H5 s5 => ?_⟩
        refine ⟨true, rfl, ?_⟩
        have T5a := (L4.two.b.same s5).1
        obtain ⟨w, o, rr, as, S5⟩ := T5a.D.s
        obtain ⟨o', w', l', s', a', ss, M5⟩ := T5a.D.m
        exact ⟨_, rfl, sl, _, _, _, rfl, rfl, SqL.of (s5 _ _ L4.hs), two_nth (j := 1) (z := y.p) rfl rfl, _, rfl, ml, _, _, _, rfl, rfl, SqL.of (s5 _ _ L4.hm), two_nth (j := 1) (z := y.q) rfl rfl, y.p, y.q, y.F1, y.F2, y.m, w, o, rr, as, o', w', l', s', a', ss, rfl, S5, M5, L4.two.wb, by omega, by omega, fun H6 s6 => fin H6⟩
    refine ⟨_, pss_cons (ps_set (i := 1) scLw.nd rfl (Or.inl rfl) (C8.pe_c cSt hr (by decide) rfl (pa_cons (pv 0) pa_nil)))
      (pss_cons (ps_set (i := 2) scLw.nd rfl (Or.inl rfl) (pe_lst (pa_cons (pe_mk0 kS hr (by decide) rfl) (pa_cons (pe_mk0 kS hr (by decide) rfl) pa_nil))))
      (pss_cons (ps_set (i := 3) scLw.nd rfl (Or.inl rfl) (pe_lst (pa_cons (pe_c0 cN hr (by decide) rfl) (pa_cons (pe_c0 cN hr (by decide) rfl) pa_nil))))
      (pss_cons (ps_set (i := 4) scLw.nd rfl (Or.inl rfl) (pe_lst (pa_cons (pe_lst pa_nil) (pa_cons (pe_lst pa_nil) pa_nil)))) ht5))), ?_⟩
    have made : ∀ {H1 H2 : Hp} {x dx : Addr} {F' : Ft}, H1 x = none → H1 dx = none → (∀ b u, upd (upd H1 dx (.own x)) x (.ins CS dx []) b = some u → b ≠ x → H2 b = some u) → (∀ b, F' b → b = x ∨ upd (upd H1 dx (.own x)) x (.ins CS dx []) b = none) → Same H1 H2 ∧ ∀ b, F' b → H1 b = none := fun {H1 H2 x dx F'} hx hd k f => by
      have s : Same H1 (upd (upd H1 dx (.own x)) x (.ins CS dx [])) := fun b u e => by
        rw [upd_ne (ne_of_none e hx), upd_ne (ne_of_none e hd)]
        exact e
      refine ⟨fun b u e => k b u (s b u e) (ne_of_none e hx), fun b g => ?_⟩
      rcases f b g with rfl | z
      · exact hx
      · exact s.free z
    refine ⟨_, rfl, a, ns, rfl, hS, fun H1 st sc St1 s01 _ _ => ?_⟩
    intro p0 d0 np0 nd0 nex0
    refine ⟨p0, d0, rfl, upd_same, fun H2 F1 w o r S2 k2 f2 => ⟨rfl, ?_⟩⟩
    obtain ⟨s12, f2⟩ := made np0 nd0 k2 f2
    intro p1 d1 np1 nd1 nex1
    refine ⟨p1, d1, rfl, upd_same, fun H3 G1 w' o' r' S3 k3 f3 => ⟨rfl, ?_⟩⟩
    obtain ⟨s23, f3⟩ := made np1 nd1 k3 f3
    refine ⟨(by show 2 ≤ sizeLine; decide), fun sl hsl => ?_⟩
    have s34 := same_new (o := .lst [.ref p0, .ref p1]) hsl
    refine ⟨rfl, fun H5 F2 q0 o2 w2 l2 s2 a2 M5 s45 f5 => ?_⟩
    refine ⟨rfl, fun H6 G2 q1 o3 w3 l3 s3 a3 M6 s56 f6 => ?_⟩
    refine ⟨(by show 2 ≤ sizeLine; decide), fun ml hml => ?_⟩
    have s67 := same_new (o := .lst [.ref q0, .ref q1]) hml
    refine ⟨by decide, fun k0 hk0 => ?_⟩
    have s78 := same_new (o := .lst []) hk0
    refine ⟨by decide, fun k1 hk1 => ?_⟩
    have s89 := same_new (o := .lst []) hk1
    refine ⟨(by show 2 ≤ sizeLine; decide), fun kl hkl => ?_⟩
    have s9X := same_new (o := .lst [.ref k0, .ref k1]) hkl
    have no : ∀ {Ha Hb : Hp} {b : Addr}, (∃ u, Ha b = some u) → Same Ha Hb → Hb b = none → False := fun ⟨u, e⟩ s z => by
      rw [s _ _ e] at z
      cases z
    have s49 := (((s45.trans s56).trans s67).trans s78).trans s89
    have s39 := s34.trans s49
    have s29 := s23.trans s39
    have s19 := s12.trans s29
    have ld : ∀ {b}, F1 b → ∃ u, H2 b = some u := fun f => S2.live _ f
    have lg : ∀ {b}, G1 b → ∃ u, H3 b = some u := fun f => S3.live _ f
    have lm : ∀ {b}, F2 b → ∃ u, H5 b = some u := fun f => M5.live _ f
    have ln : ∀ {b}, G2 b → ∃ u, H6 b = some u := fun f => M6.live _ f
    obtain ⟨sa, sb, sc', sh0, est⟩ := St1.ob
    have lst : ∃ u, H1 st = some u := ⟨_, est⟩
    have lsc : ∃ u, H1 sc = some u := ⟨_, St1.hs⟩
    have s24 := s23.trans s34
    have s35 := s34.trans s45
    have s25 := s24.trans s45
    have s26 := s25.trans s56
    have s36 := s35.trans s56
    have s27 := s26.trans s67
    have s37 := s36.trans s67
    have s57 := s56.trans s67
    have s28 := s27.trans s78
    have s38 := s37.trans s78
    have s58 := s57.trans s78
    have s68 := s67.trans s78
    have s14 := s12.trans s24
    have s15 := s14.trans s45
    have s17 := s12.trans s27
    have s18 := s17.trans s78
    have s69 := s68.trans s89
    have s59 := s58.trans s89
    have nq : ∀ {Ha : Hp} {b c : Addr}, b = c → Ha c = none → Ha b = none := fun e h => by rw [e]; exact h
    have dF : ∀ b, F1 b → ¬ F2 b := fun b f g => no (ld f) s24 (f5 b g)
    have dG : ∀ b, G1 b → ¬ G2 b := fun b f g => no (lg f) s35 (f6 b g)
    have D0 : Duo CS CR _ F1 F2 p0 q0 k0 (norm emptyM) emptyM [] := ⟨⟨w, o, r, [], S2.same (s29.trans s9X)⟩, ⟨o2, w2, l2, s2, a2, [], M5.same (s59.trans s9X)⟩, (s89.trans s9X) _ _ upd_same, dF, fun f => no (ld f) s27 hk0, fun f => no (lm f) s57 hk0⟩
    have D1 : Duo CS CR _ G1 G2 p1 q1 k1 (norm emptyM) emptyM [] := ⟨⟨w', o', r', [], S3.same (s39.trans s9X)⟩, ⟨o3, w3, l3, s3, a3, [], M6.same (s69.trans s9X)⟩, s9X _ _ upd_same, dG, fun f => no (lg f) s38 hk1, fun f => no (ln f) s68 hk1⟩
    have StX : StateAt _ st sc ns := St1.same (s19.trans s9X)
    have A0 : Sit CS CR _ st sc ns F1 F2 p0 q0 k0 (norm emptyM) emptyM [] := ⟨StX, D0, fun f => by
      rcases f with f | f | f
      · exact no lst (fun _ _ e => e) (f2 _ f)
      · exact no lst s14 (f5 _ f)
      · exact no lst s17 (by rw [f]; exact hk0), fun f => by
      rcases f with f | f | f
      · exact no lsc (fun _ _ e => e) (f2 _ f)
      · exact no lsc s14 (f5 _ f)
      · exact no lsc s17 (by rw [f]; exact hk0)⟩
    have A1 : Sit CS CR _ st sc ns G1 G2 p1 q1 k1 (norm emptyM) emptyM [] := ⟨StX, D1, fun f => by
      rcases f with f | f | f
      · exact no lst s12 (f3 _ f)
      · exact no lst s15 (f6 _ f)
      · exact no lst s18 (by rw [f]; exact hk1), fun f => by
      rcases f with f | f | f
      · exact no lsc s12 (f3 _ f)
      · exact no lsc s15 (f6 _ f)
      · exact no lsc s18 (by rw [f]; exact hk1)⟩
    have dis : ∀ b, foot F1 F2 k0 b → ¬ foot G1 G2 k1 b := fun b f g => by
      rcases f with f | f | rfl
      · rcases g with g | g | rfl
        · exact no (ld f) (fun _ _ e => e) (f3 _ g)
        · exact no (ld f) s25 (f6 _ g)
        · exact no (ld f) s28 hk1
      · rcases g with g | g | rfl
        · exact no (lg g) s34 (f5 _ f)
        · exact no (lm f) (fun _ _ e => e) (f6 _ g)
        · exact no (lm f) s58 hk1
      · rcases g with g | g | e
        · exact no (lg g) s37 hk0
        · exact no (ln g) s67 hk0
        · exact no (Ha := upd (upd H6 ml (.lst [.ref q0, .ref q1])) b (.lst [])) (b := b) ⟨_, upd_same⟩ (fun _ _ e => e) (nq e hk1)
    refine rd5 _ st sc sl ml kl ⟨F1, F2, p0, q0, k0, emptyM, []⟩ ⟨G1, G2, p1, q1, k1, emptyM, []⟩ ⟨⟨A0, A1, dis, wf_empty, wf_empty⟩, (s49.trans s9X) _ _ upd_same, ((s78.trans s89).trans s9X) _ _ upd_same, upd_same, fun b hb => ?_, ⟨Nat.le_refl _, Nat.le_refl _, Nat.le_refl _⟩, ⟨Nat.le_refl _, Nat.le_refl _, Nat.le_refl _⟩⟩
    rcases hb with rfl | rfl | rfl
    · have l4 : ∃ u, upd H3 b (.lst [.ref p0, .ref p1]) b = some u := ⟨_, upd_same⟩
      refine ⟨fun f => ?_, fun f => ?_, fun e => ?_⟩
      · rcases f with f | f | f
        · exact no (ld f) s23 hsl
        · exact no l4 (fun _ _ e => e) (f5 _ f)
        · exact no l4 ((s45.trans s56).trans s67) (by rw [f]; exact hk0)
      · rcases f with f | f | f
        · exact no (lg f) (fun _ _ e => e) hsl
        · exact no l4 s45 (f6 _ f)
        · exact no l4 (((s45.trans s56).trans s67).trans s78) (by rw [f]; exact hk1)
      · exact no lst (s12.trans s23) (by rw [← e]; exact hsl)
    · have l7 : ∃ u, upd H6 b (.lst [.ref q0, .ref q1]) b = some u := ⟨_, upd_same⟩
      refine ⟨fun f => ?_, fun f => ?_, fun e => ?_⟩
      · rcases f with f | f | f
        · exact no (ld f) s26 hml
        · exact no (lm f) s56 hml
        · exact no l7 (fun _ _ e => e) (nq f hk0)
      · rcases f with f | f | f
        · exact no (lg f) s36 hml
        · exact no (ln f) (fun _ _ e => e) hml
        · exact no l7 s78 (nq f hk1)
      · exact no lst (s15.trans s56) (by rw [← e]; exact hml)
    · refine ⟨fun f => ?_, fun f => ?_, fun e => ?_⟩
      · rcases f with f | f | f
        · exact no (ld f) s29 hkl
        · exact no (lm f) s59 hkl
        · exact no (Ha := upd (upd H6 ml (.lst [.ref q0, .ref q1])) k0 (.lst [])) ⟨_, upd_same⟩ s89 (nq f.symm hkl)
      · rcases f with f | f | f
        · exact no (lg f) s39 hkl
        · exact no (ln f) s69 hkl
        · exact no (Ha := upd (upd (upd H6 ml (.lst [.ref q0, .ref q1])) k0 (.lst [])) k1 (.lst [])) ⟨_, upd_same⟩ (fun _ _ e => e) (nq f.symm hkl)
      · exact no lst s19 (by rw [← e]; exact hkl)
end
end Esc

/-! What the top has written. -/
namespace Esc
open PySem L2 EscR
open PySem.HandSPX PySem.Calls in
theorem exm_own {K : PySem.W.Frag} {S : Addr} (h1 : PySem.W.subIn K (.ref S) (.type "BaseException") = some true) (h2 : PySem.W.isClsIn K S = true) (h3 : PySem.W.typeIn K (.ref S) = some (.type "type")) (h4 : PySem.W.subIn K (.ref S) (.ref S) = some true) : PySem.W.exmOne K (.ref S) (.ref S) = some true := by
  have c : (PySem.W.clsIn K S).isSome = true := h2
  unfold PySem.W.exmOne PySem.W.kitCls
  simp [h1, h3, h4, c]

open PySem.HandSPX PySem.Calls in
theorem all_mk {l : PySem.W.OpenLaw} {w : World} {K : PySem.W.Frag} {h : Heap} {mg : Str → Option Value} {fa CS CR f1 f2 f3 f4 f5 f6 f7 f8 f9 f10 f11 f12 f13 f14 f15 f16 f17 f18 f19 f20 f21 f22 f23 f24 f25 f26 f27 f28 f29 f30 f31 f32 f33 f34 f35 f36 f37 f38 f39 : Addr} (X : K.In h) (G : h.Ns mainGlobals mg) (hfa : mg "law" = some (.ref fa))
    {od1 an1 : Option Addr} {sl1 : Array (Option Value)} {oc1 kV1 dc1 pm1 cd1 ct1 : Value}
    {od2 an2 : Option Addr} {sl2 : Array (Option Value)} {oc2 kV2 dc2 pm2 cd2 ct2 : Value}
    {od3 an3 : Option Addr} {sl3 : Array (Option Value)} {oc3 kV3 dc3 pm3 cd3 ct3 : Value}
    {od4 an4 : Option Addr} {sl4 : Array (Option Value)} {oc4 kV4 dc4 pm4 cd4 ct4 : Value}
    {od5 an5 : Option Addr} {sl5 : Array (Option Value)} {oc5 kV5 dc5 pm5 cd5 ct5 : Value}
    {od6 an6 : Option Addr} {sl6 : Array (Option Value)} {oc6 kV6 dc6 pm6 cd6 ct6 : Value}
    {od7 an7 : Option Addr} {sl7 : Array (Option Value)} {oc7 kV7 dc7 pm7 cd7 ct7 : Value}
    {od8 an8 : Option Addr} {sl8 : Array (Option Value)} {oc8 kV8 dc8 pm8 cd8 ct8 : Value}
    {od9 an9 : Option Addr} {sl9 : Array (Option Value)} {oc9 kV9 dc9 pm9 cd9 ct9 : Value}
    {od10 an10 : Option Addr} {sl10 : Array (Option Value)} {oc10 kV10 dc10 pm10 cd10 ct10 : Value}
    {od11 an11 : Option Addr} {sl11 : Array (Option Value)} {oc11 kV11 dc11 pm11 cd11 ct11 : Value}
    {od12 an12 : Option Addr} {sl12 : Array (Option Value)} {oc12 kV12 dc12 pm12 cd12 ct12 : Value}
    {od13 an13 : Option Addr} {sl13 : Array (Option Value)} {oc13 kV13 dc13 pm13 cd13 ct13 : Value}
    {od14 an14 : Option Addr} {sl14 : Array (Option Value)} {oc14 kV14 dc14 pm14 cd14 ct14 : Value}
    {od15 an15 : Option Addr} {sl15 : Array (Option Value)} {oc15 kV15 dc15 pm15 cd15 ct15 : Value}
    {od16 an16 : Option Addr} {sl16 : Array (Option Value)} {oc16 kV16 dc16 pm16 cd16 ct16 : Value}
    {od17 an17 : Option Addr} {sl17 : Array (Option Value)} {oc17 kV17 dc17 pm17 cd17 ct17 : Value}
    {od18 an18 : Option Addr} {sl18 : Array (Option Value)} {oc18 kV18 dc18 pm18 cd18 ct18 : Value}
    {od19 an19 : Option Addr} {sl19 : Array (Option Value)} {oc19 kV19 dc19 pm19 cd19 ct19 : Value}
    {od20 an20 : Option Addr} {sl20 : Array (Option Value)} {oc20 kV20 dc20 pm20 cd20 ct20 : Value}
    {od21 an21 : Option Addr} {sl21 : Array (Option Value)} {oc21 kV21 dc21 pm21 cd21 ct21 : Value}
    {od22 an22 : Option Addr} {sl22 : Array (Option Value)} {oc22 kV22 dc22 pm22 cd22 ct22 : Value}
    {od23 an23 : Option Addr} {sl23 : Array (Option Value)} {oc23 kV23 dc23 pm23 cd23 ct23 : Value}
    {od24 an24 : Option Addr} {sl24 : Array (Option Value)} {oc24 kV24 dc24 pm24 cd24 ct24 : Value}
    {od25 an25 : Option Addr} {sl25 : Array (Option Value)} {oc25 kV25 dc25 pm25 cd25 ct25 : Value}
    {od26 an26 : Option Addr} {sl26 : Array (Option Value)} {oc26 kV26 dc26 pm26 cd26 ct26 : Value}
    {od27 an27 : Option Addr} {sl27 : Array (Option Value)} {oc27 kV27 dc27 pm27 cd27 ct27 : Value}
    {od28 an28 : Option Addr} {sl28 : Array (Option Value)} {oc28 kV28 dc28 pm28 cd28 ct28 : Value}
    {od29 an29 : Option Addr} {sl29 : Array (Option Value)} {oc29 kV29 dc29 pm29 cd29 ct29 : Value}
    {od30 an30 : Option Addr} {sl30 : Array (Option Value)} {oc30 kV30 dc30 pm30 cd30 ct30 : Value}
    {od31 an31 : Option Addr} {sl31 : Array (Option Value)} {oc31 kV31 dc31 pm31 cd31 ct31 : Value}
    {od32 an32 : Option Addr} {sl32 : Array (Option Value)} {oc32 kV32 dc32 pm32 cd32 ct32 : Value}
    {od33 an33 : Option Addr} {sl33 : Array (Option Value)} {oc33 kV33 dc33 pm33 cd33 ct33 : Value}
    {od34 an34 : Option Addr} {sl34 : Array (Option Value)} {oc34 kV34 dc34 pm34 cd34 ct34 : Value}
    {od35 an35 : Option Addr} {sl35 : Array (Option Value)} {oc35 kV35 dc35 pm35 cd35 ct35 : Value}
    {od36 an36 : Option Addr} {sl36 : Array (Option Value)} {oc36 kV36 dc36 pm36 cd36 ct36 : Value}
    {q36 : Addr} {rs36 : List Value}
    {od37 an37 : Option Addr} {sl37 : Array (Option Value)} {oc37 kV37 dc37 pm37 cd37 ct37 : Value}
    {q37 : Addr} {rs37 : List Value}
    {od38 an38 : Option Addr} {sl38 : Array (Option Value)} {oc38 kV38 dc38 pm38 cd38 ct38 : Value}
    {q38 : Addr} {rs38 : List Value}
    {od39 an39 : Option Addr} {sl39 : Array (Option Value)} {oc39 kV39 dc39 pm39 cd39 ct39 : Value}
    {tkP : Tok}
    {C fI cc cda N : Addr} {nm qn : Str} {bs bm : List Value} {sn : List Str} {sub : List Value} {ab : Bool} {col : Option Bool} {dd : Option Addr} {m0 m1 m2 m3 m5 : Option Value} {ocI docI pmI ctI : Value} {odI anI : Option Addr} {slI : Array (Option Value)} {clc : Value} {cld : Option Addr} {csl : Array (Option Value)} {ccl : Value} {cdd : Option Addr} {vsC : Array Value} {ccs : Array (Option Value)} {file : Str} {tf : Tok}
    (a1 : PySem.W.nsIn K mainGlobals "is_integer" = some (some (.ref f1)))
    (l1 : K.lookup f1 = some ⟨oc1, od1, .func (PySem.W.fnOf "is_integer" "is_integer" (defArgs sIsInt) (defBody sIsInt) (defScope sIsInt) .none kV1 dc1 pm1 an1 cd1 ct1), sl1⟩)
    (c1 : PySem.W.codeIn K cd1 "is_integer" = true)
    (k1 : PySem.W.keepIn K (.ref f1) = true)
    (a2 : PySem.W.nsIn K mainGlobals "_law_start" = some (some (.ref f2)))
    (l2 : K.lookup f2 = some ⟨oc2, od2, .func (PySem.W.fnOf "_law_start" "_law_start" (defArgs lStart) (defBody lStart) (defScope lStart) .none kV2 dc2 pm2 an2 cd2 ct2), sl2⟩)
    (c2 : PySem.W.codeIn K cd2 "_law_start" = true)
    (k2 : PySem.W.keepIn K (.ref f2) = true)
    (a3 : PySem.W.nsIn K mainGlobals "_law_draw" = some (some (.ref f3)))
    (l3 : K.lookup f3 = some ⟨oc3, od3, .func (PySem.W.fnOf "_law_draw" "_law_draw" (defArgs lDraw) (defBody lDraw) (defScope lDraw) .none kV3 dc3 pm3 an3 cd3 ct3), sl3⟩)
    (c3 : PySem.W.codeIn K cd3 "_law_draw" = true)
    (k3 : PySem.W.keepIn K (.ref f3) = true)
    (a4 : PySem.W.nsIn K mainGlobals "_law_new" = some (some (.ref f4)))
    (l4 : K.lookup f4 = some ⟨oc4, od4, .func (PySem.W.fnOf "_law_new" "_law_new" (defArgs lNew) (defBody lNew) (defScope lNew) .none kV4 dc4 pm4 an4 cd4 ct4), sl4⟩)
    (c4 : PySem.W.codeIn K cd4 "_law_new" = true)
    (k4 : PySem.W.keepIn K (.ref f4) = true)
    (a5 : PySem.W.nsIn K mainGlobals "_law_begin" = some (some (.ref f5)))
    (l5 : K.lookup f5 = some ⟨oc5, od5, .func (PySem.W.fnOf "_law_begin" "_law_begin" (defArgs lBegin) (defBody lBegin) (defScope lBegin) .none kV5 dc5 pm5 an5 cd5 ct5), sl5⟩)
    (c5 : PySem.W.codeIn K cd5 "_law_begin" = true)
    (k5 : PySem.W.keepIn K (.ref f5) = true)
    (a6 : PySem.W.nsIn K mainGlobals "_law_pages" = some (some (.ref f6)))
    (l6 : K.lookup f6 = some ⟨oc6, od6, .func (PySem.W.fnOf "_law_pages" "_law_pages" (defArgs lPages) (defBody lPages) (defScope lPages) .none kV6 dc6 pm6 an6 cd6 ct6), sl6⟩)
    (c6 : PySem.W.codeIn K cd6 "_law_pages" = true)
    (k6 : PySem.W.keepIn K (.ref f6) = true)
    (a7 : PySem.W.nsIn K mainGlobals "_law_pages_for" = some (some (.ref f7)))
    (l7 : K.lookup f7 = some ⟨oc7, od7, .func (PySem.W.fnOf "_law_pages_for" "_law_pages_for" (defArgs lPagesFor) (defBody lPagesFor) (defScope lPagesFor) .none kV7 dc7 pm7 an7 cd7 ct7), sl7⟩)
    (c7 : PySem.W.codeIn K cd7 "_law_pages_for" = true)
    (k7 : PySem.W.keepIn K (.ref f7) = true)
    (a8 : PySem.W.nsIn K mainGlobals "_law_cell" = some (some (.ref f8)))
    (l8 : K.lookup f8 = some ⟨oc8, od8, .func (PySem.W.fnOf "_law_cell" "_law_cell" (defArgs lCell) (defBody lCell) (defScope lCell) .none kV8 dc8 pm8 an8 cd8 ct8), sl8⟩)
    (c8 : PySem.W.codeIn K cd8 "_law_cell" = true)
    (k8 : PySem.W.keepIn K (.ref f8) = true)
    (a9 : PySem.W.nsIn K mainGlobals "_law_end" = some (some (.ref f9)))
    (l9 : K.lookup f9 = some ⟨oc9, od9, .func (PySem.W.fnOf "_law_end" "_law_end" (defArgs lEnd) (defBody lEnd) (defScope lEnd) .none kV9 dc9 pm9 an9 cd9 ct9), sl9⟩)
    (c9 : PySem.W.codeIn K cd9 "_law_end" = true)
    (k9 : PySem.W.keepIn K (.ref f9) = true)
    (a10 : PySem.W.nsIn K mainGlobals "_law_owner" = some (some (.ref f10)))
    (l10 : K.lookup f10 = some ⟨oc10, od10, .func (PySem.W.fnOf "_law_owner" "_law_owner" (defArgs lOwner) (defBody lOwner) (defScope lOwner) .none kV10 dc10 pm10 an10 cd10 ct10), sl10⟩)
    (c10 : PySem.W.codeIn K cd10 "_law_owner" = true)
    (k10 : PySem.W.keepIn K (.ref f10) = true)
    (a11 : PySem.W.nsIn K mainGlobals "_law_read" = some (some (.ref f11)))
    (l11 : K.lookup f11 = some ⟨oc11, od11, .func (PySem.W.fnOf "_law_read" "_law_read" (defArgs lRead) (defBody lRead) (defScope lRead) .none kV11 dc11 pm11 an11 cd11 ct11), sl11⟩)
    (c11 : PySem.W.codeIn K cd11 "_law_read" = true)
    (k11 : PySem.W.keepIn K (.ref f11) = true)
    (a12 : PySem.W.nsIn K mainGlobals "_law_write" = some (some (.ref f12)))
    (l12 : K.lookup f12 = some ⟨oc12, od12, .func (PySem.W.fnOf "_law_write" "_law_write" (defArgs lWrite) (defBody lWrite) (defScope lWrite) .none kV12 dc12 pm12 an12 cd12 ct12), sl12⟩)
    (c12 : PySem.W.codeIn K cd12 "_law_write" = true)
    (k12 : PySem.W.keepIn K (.ref f12) = true)
    (a13 : PySem.W.nsIn K mainGlobals "_law_held" = some (some (.ref f13)))
    (l13 : K.lookup f13 = some ⟨oc13, od13, .func (PySem.W.fnOf "_law_held" "_law_held" (defArgs lHeld) (defBody lHeld) (defScope lHeld) .none kV13 dc13 pm13 an13 cd13 ct13), sl13⟩)
    (c13 : PySem.W.codeIn K cd13 "_law_held" = true)
    (k13 : PySem.W.keepIn K (.ref f13) = true)
    (a14 : PySem.W.nsIn K mainGlobals "_law_is_integer" = some (some (.ref f14)))
    (l14 : K.lookup f14 = some ⟨oc14, od14, .func (PySem.W.fnOf "_law_is_integer" "_law_is_integer" (defArgs lIsInt) (defBody lIsInt) (defScope lIsInt) .none kV14 dc14 pm14 an14 cd14 ct14), sl14⟩)
    (c14 : PySem.W.codeIn K cd14 "_law_is_integer" = true)
    (k14 : PySem.W.keepIn K (.ref f14) = true)
    (a15 : PySem.W.nsIn K mainGlobals "_law_same" = some (some (.ref f15)))
    (l15 : K.lookup f15 = some ⟨oc15, od15, .func (PySem.W.fnOf "_law_same" "_law_same" (defArgs lSame) (defBody lSame) (defScope lSame) .none kV15 dc15 pm15 an15 cd15 ct15), sl15⟩)
    (c15 : PySem.W.codeIn K cd15 "_law_same" = true)
    (k15 : PySem.W.keepIn K (.ref f15) = true)
    (a16 : PySem.W.nsIn K mainGlobals "_law_address" = some (some (.ref f16)))
    (l16 : K.lookup f16 = some ⟨oc16, od16, .func (PySem.W.fnOf "_law_address" "_law_address" (defArgs lAddress) (defBody lAddress) (defScope lAddress) .none kV16 dc16 pm16 an16 cd16 ct16), sl16⟩)
    (c16 : PySem.W.codeIn K cd16 "_law_address" = true)
    (k16 : PySem.W.keepIn K (.ref f16) = true)
    (a17 : PySem.W.nsIn K mainGlobals "_law_region" = some (some (.ref f17)))
    (l17 : K.lookup f17 = some ⟨oc17, od17, .func (PySem.W.fnOf "_law_region" "_law_region" (defArgs lRegion) (defBody lRegion) (defScope lRegion) .none kV17 dc17 pm17 an17 cd17 ct17), sl17⟩)
    (c17 : PySem.W.codeIn K cd17 "_law_region" = true)
    (k17 : PySem.W.keepIn K (.ref f17) = true)
    (a18 : PySem.W.nsIn K mainGlobals "_law_open" = some (some (.ref f18)))
    (l18 : K.lookup f18 = some ⟨oc18, od18, .func (PySem.W.fnOf "_law_open" "_law_open" (defArgs lOpen) (defBody lOpen) (defScope lOpen) .none kV18 dc18 pm18 an18 cd18 ct18), sl18⟩)
    (c18 : PySem.W.codeIn K cd18 "_law_open" = true)
    (k18 : PySem.W.keepIn K (.ref f18) = true)
    (a19 : PySem.W.nsIn K mainGlobals "_law_make" = some (some (.ref f19)))
    (l19 : K.lookup f19 = some ⟨oc19, od19, .func (PySem.W.fnOf "_law_make" "_law_make" (defArgs lMake) (defBody lMake) (defScope lMake) .none kV19 dc19 pm19 an19 cd19 ct19), sl19⟩)
    (c19 : PySem.W.codeIn K cd19 "_law_make" = true)
    (k19 : PySem.W.keepIn K (.ref f19) = true)
    (a20 : PySem.W.nsIn K mainGlobals "_law_deed" = some (some (.ref f20)))
    (l20 : K.lookup f20 = some ⟨oc20, od20, .func (PySem.W.fnOf "_law_deed" "_law_deed" (defArgs lDeed) (defBody lDeed) (defScope lDeed) .none kV20 dc20 pm20 an20 cd20 ct20), sl20⟩)
    (c20 : PySem.W.codeIn K cd20 "_law_deed" = true)
    (k20 : PySem.W.keepIn K (.ref f20) = true)
    (a21 : PySem.W.nsIn K mainGlobals "law" = some (some (.ref f21)))
    (l21 : K.lookup f21 = some ⟨oc21, od21, .func (PySem.W.fnOf "law" "law" (defArgs lLaw) (defBody lLaw) (defScope lLaw) .none kV21 dc21 pm21 an21 cd21 ct21), sl21⟩)
    (c21 : PySem.W.codeIn K cd21 "law" = true)
    (k21 : PySem.W.keepIn K (.ref f21) = true)
    (a22 : PySem.W.findIn K (.ref CS) "__init__" = some (some (.ref f22)))
    (i22 : PySem.W.isFn K (.ref f22) = true)
    (l22 : K.lookup f22 = some ⟨oc22, od22, .func (PySem.W.fnOf "__init__" "Store.__init__" (defArgs sStore) (defBody sStore) (defScope sStore) .none kV22 dc22 pm22 an22 cd22 ct22), sl22⟩)
    (c22 : PySem.W.codeIn K cd22 "Store.__init__" = true)
    (k22 : PySem.W.keepIn K (.ref f22) = true)
    (a23 : PySem.W.findIn K (.ref CS) "record" = some (some (.ref f23)))
    (i23 : PySem.W.isFn K (.ref f23) = true)
    (l23 : K.lookup f23 = some ⟨oc23, od23, .func (PySem.W.fnOf "record" "Store.record" (defArgs sRecord) (defBody sRecord) (defScope sRecord) .none kV23 dc23 pm23 an23 cd23 ct23), sl23⟩)
    (c23 : PySem.W.codeIn K cd23 "Store.record" = true)
    (k23 : PySem.W.keepIn K (.ref f23) = true)
    (a24 : PySem.W.findIn K (.ref CS) "is_current" = some (some (.ref f24)))
    (i24 : PySem.W.isFn K (.ref f24) = true)
    (l24 : K.lookup f24 = some ⟨oc24, od24, .func (PySem.W.fnOf "is_current" "Store.is_current" (defArgs sIsCur) (defBody sIsCur) (defScope sIsCur) .none kV24 dc24 pm24 an24 cd24 ct24), sl24⟩)
    (c24 : PySem.W.codeIn K cd24 "Store.is_current" = true)
    (k24 : PySem.W.keepIn K (.ref f24) = true)
    (a25 : PySem.W.findIn K (.ref CS) "begin" = some (some (.ref f25)))
    (i25 : PySem.W.isFn K (.ref f25) = true)
    (l25 : K.lookup f25 = some ⟨oc25, od25, .func (PySem.W.fnOf "begin" "Store.begin" (defArgs sBegin) (defBody sBegin) (defScope sBegin) .none kV25 dc25 pm25 an25 cd25 ct25), sl25⟩)
    (c25 : PySem.W.codeIn K cd25 "Store.begin" = true)
    (k25 : PySem.W.keepIn K (.ref f25) = true)
    (a26 : PySem.W.findIn K (.ref CS) "take" = some (some (.ref f26)))
    (i26 : PySem.W.isFn K (.ref f26) = true)
    (l26 : K.lookup f26 = some ⟨oc26, od26, .func (PySem.W.fnOf "take" "Store.take" (defArgs sTake) (defBody sTake) (defScope sTake) .none kV26 dc26 pm26 an26 cd26 ct26), sl26⟩)
    (c26 : PySem.W.codeIn K cd26 "Store.take" = true)
    (k26 : PySem.W.keepIn K (.ref f26) = true)
    (a27 : PySem.W.findIn K (.ref CS) "cell" = some (some (.ref f27)))
    (i27 : PySem.W.isFn K (.ref f27) = true)
    (l27 : K.lookup f27 = some ⟨oc27, od27, .func (PySem.W.fnOf "cell" "Store.cell" (defArgs sCell) (defBody sCell) (defScope sCell) .none kV27 dc27 pm27 an27 cd27 ct27), sl27⟩)
    (c27 : PySem.W.codeIn K cd27 "Store.cell" = true)
    (k27 : PySem.W.keepIn K (.ref f27) = true)
    (a28 : PySem.W.findIn K (.ref CS) "end" = some (some (.ref f28)))
    (i28 : PySem.W.isFn K (.ref f28) = true)
    (l28 : K.lookup f28 = some ⟨oc28, od28, .func (PySem.W.fnOf "end" "Store.end" (defArgs sEnd) (defBody sEnd) (defScope sEnd) .none kV28 dc28 pm28 an28 cd28 ct28), sl28⟩)
    (c28 : PySem.W.codeIn K cd28 "Store.end" = true)
    (k28 : PySem.W.keepIn K (.ref f28) = true)
    (a29 : PySem.W.findIn K (.ref CS) "owner" = some (some (.ref f29)))
    (i29 : PySem.W.isFn K (.ref f29) = true)
    (l29 : K.lookup f29 = some ⟨oc29, od29, .func (PySem.W.fnOf "owner" "Store.owner" (defArgs sOwner) (defBody sOwner) (defScope sOwner) .none kV29 dc29 pm29 an29 cd29 ct29), sl29⟩)
    (c29 : PySem.W.codeIn K cd29 "Store.owner" = true)
    (k29 : PySem.W.keepIn K (.ref f29) = true)
    (a30 : PySem.W.findIn K (.ref CS) "read" = some (some (.ref f30)))
    (i30 : PySem.W.isFn K (.ref f30) = true)
    (l30 : K.lookup f30 = some ⟨oc30, od30, .func (PySem.W.fnOf "read" "Store.read" (defArgs sRead) (defBody sRead) (defScope sRead) .none kV30 dc30 pm30 an30 cd30 ct30), sl30⟩)
    (c30 : PySem.W.codeIn K cd30 "Store.read" = true)
    (k30 : PySem.W.keepIn K (.ref f30) = true)
    (a31 : PySem.W.findIn K (.ref CS) "write" = some (some (.ref f31)))
    (i31 : PySem.W.isFn K (.ref f31) = true)
    (l31 : K.lookup f31 = some ⟨oc31, od31, .func (PySem.W.fnOf "write" "Store.write" (defArgs sWrite) (defBody sWrite) (defScope sWrite) .none kV31 dc31 pm31 an31 cd31 ct31), sl31⟩)
    (c31 : PySem.W.codeIn K cd31 "Store.write" = true)
    (k31 : PySem.W.keepIn K (.ref f31) = true)
    (a32 : PySem.W.findIn K (.ref CS) "current" = some (some (.ref f32)))
    (i32 : PySem.W.isFn K (.ref f32) = true)
    (l32 : K.lookup f32 = some ⟨oc32, od32, .func (PySem.W.fnOf "current" "Store.current" (defArgs sCurrent) (defBody sCurrent) (defScope sCurrent) .none kV32 dc32 pm32 an32 cd32 ct32), sl32⟩)
    (c32 : PySem.W.codeIn K cd32 "Store.current" = true)
    (k32 : PySem.W.keepIn K (.ref f32) = true)
    (a33 : PySem.W.findIn K (.ref CS) "__len__" = some (some (.ref f33)))
    (i33 : PySem.W.isFn K (.ref f33) = true)
    (l33 : K.lookup f33 = some ⟨oc33, od33, .func (PySem.W.fnOf "__len__" "Store.__len__" (defArgs sLen) (defBody sLen) (defScope sLen) .none kV33 dc33 pm33 an33 cd33 ct33), sl33⟩)
    (c33 : PySem.W.codeIn K cd33 "Store.__len__" = true)
    (k33 : PySem.W.keepIn K (.ref f33) = true)
    (a34 : PySem.W.findIn K (.ref CS) "__iter__" = some (some (.ref f34)))
    (i34 : PySem.W.isFn K (.ref f34) = true)
    (l34 : K.lookup f34 = some ⟨oc34, od34, .func (PySem.W.fnOf "__iter__" "Store.__iter__" (defArgs sIter) (defBody sIter) (defScope sIter) .none kV34 dc34 pm34 an34 cd34 ct34), sl34⟩)
    (c34 : PySem.W.codeIn K cd34 "Store.__iter__" = true)
    (k34 : PySem.W.keepIn K (.ref f34) = true)
    (a35 : PySem.W.findIn K (.ref CS) "__contains__" = some (some (.ref f35)))
    (i35 : PySem.W.isFn K (.ref f35) = true)
    (l35 : K.lookup f35 = some ⟨oc35, od35, .func (PySem.W.fnOf "__contains__" "Store.__contains__" (defArgs sContains) (defBody sContains) (defScope sContains) .none kV35 dc35 pm35 an35 cd35 ct35), sl35⟩)
    (c35 : PySem.W.codeIn K cd35 "Store.__contains__" = true)
    (k35 : PySem.W.keepIn K (.ref f35) = true)
    (a36 : PySem.W.findIn K (.ref CS) "held" = some (some (.ref q36)))
    (g36 : PySem.W.specialIn K (.ref q36) "__get__" = some (some (.builtin "property.__get__")))
    (t36 : PySem.W.takesIn K (.ref q36) = some true)
    (r36 : PySem.W.recIn K q36 "property" = some (.ref f36 :: rs36))
    (l36 : K.lookup f36 = some ⟨oc36, od36, .func (PySem.W.fnOf "held" "Store.held" (defArgs sHeld) (defBody sHeld) (defScope sHeld) .none kV36 dc36 pm36 an36 cd36 ct36), sl36⟩)
    (c36 : PySem.W.codeIn K cd36 "Store.held" = true)
    (k36 : PySem.W.keepIn K (.ref f36) = true)
    (a37 : PySem.W.findIn K (.ref CS) "pages" = some (some (.ref q37)))
    (g37 : PySem.W.specialIn K (.ref q37) "__get__" = some (some (.builtin "property.__get__")))
    (t37 : PySem.W.takesIn K (.ref q37) = some true)
    (r37 : PySem.W.recIn K q37 "property" = some (.ref f37 :: rs37))
    (l37 : K.lookup f37 = some ⟨oc37, od37, .func (PySem.W.fnOf "pages" "Store.pages" (defArgs sPages) (defBody sPages) (defScope sPages) .none kV37 dc37 pm37 an37 cd37 ct37), sl37⟩)
    (c37 : PySem.W.codeIn K cd37 "Store.pages" = true)
    (k37 : PySem.W.keepIn K (.ref f37) = true)
    (a38 : PySem.W.findIn K (.ref CS) "waiting" = some (some (.ref q38)))
    (g38 : PySem.W.specialIn K (.ref q38) "__get__" = some (some (.builtin "property.__get__")))
    (t38 : PySem.W.takesIn K (.ref q38) = some true)
    (r38 : PySem.W.recIn K q38 "property" = some (.ref f38 :: rs38))
    (l38 : K.lookup f38 = some ⟨oc38, od38, .func (PySem.W.fnOf "waiting" "Store.waiting" (defArgs sWaiting) (defBody sWaiting) (defScope sWaiting) .none kV38 dc38 pm38 an38 cd38 ct38), sl38⟩)
    (c38 : PySem.W.codeIn K cd38 "Store.waiting" = true)
    (k38 : PySem.W.keepIn K (.ref f38) = true)
    (a39 : PySem.W.findIn K (.ref CR) "__init__" = some (some (.ref f39)))
    (i39 : PySem.W.isFn K (.ref f39) = true)
    (l39 : K.lookup f39 = some ⟨oc39, od39, .func (PySem.W.fnOf "__init__" "RegionState.__init__" (defArgs sReg) (defBody sReg) (defScope sReg) .none kV39 dc39 pm39 an39 cd39 ct39), sl39⟩)
    (c39 : PySem.W.codeIn K cd39 "RegionState.__init__" = true)
    (k39 : PySem.W.keepIn K (.ref f39) = true)
    (mCS : PySem.W.nsIn K mainGlobals "Store" = some (some (.ref CS)))
    (pgCS : PySem.W.plainGet K CS Str.empty = true)
    (hdCS : PySem.W.hasDictIn K CS = true)
    (poCS : PySem.W.plainOver K CS = true)
    (saCS : PySem.W.findIn K (.ref CS) "__setattr__" = some (some (.builtin "object.__setattr__")))
    (mkCS : PySem.W.makesIn K CS = true)
    (kpCS : PySem.W.keepIn K (.ref CS) = true)
    (mCR : PySem.W.nsIn K mainGlobals "RegionState" = some (some (.ref CR)))
    (pgCR : PySem.W.plainGet K CR Str.empty = true)
    (hdCR : PySem.W.hasDictIn K CR = true)
    (poCR : PySem.W.plainOver K CR = true)
    (saCR : PySem.W.findIn K (.ref CR) "__setattr__" = some (some (.builtin "object.__setattr__")))
    (mkCR : PySem.W.makesIn K CR = true)
    (kpCR : PySem.W.keepIn K (.ref CR) = true)
    (nW : PySem.W.findIn K (.ref CS) "words" = some none)
    (nO : PySem.W.findIn K (.ref CS) "owners" = some none)
    (nR : PySem.W.findIn K (.ref CS) "regions" = some none)
    (nX : PySem.W.findIn K (.ref CS) "watch" = some none)
    (nL : PySem.W.findIn K (.ref CR) "lives" = some none)
    (nA : PySem.W.findIn K (.ref CR) "amount" = some none)
    (nP : PySem.W.findIn K (.ref CR) "place" = some none)
    (nM : PySem.W.findIn K (.ref CR) "room" = some none)
    (z_len : PySem.W.nsIn K mainGlobals "len" = some none)
    (z_range : PySem.W.nsIn K mainGlobals "range" = some none)
    (z_list : PySem.W.nsIn K mainGlobals "list" = some none)
    (z_enumerate : PySem.W.nsIn K mainGlobals "enumerate" = some none)
    (z_sum : PySem.W.nsIn K mainGlobals "sum" = some none)
    (z_isinstance : PySem.W.nsIn K mainGlobals "isinstance" = some none)
    (z_int : PySem.W.nsIn K mainGlobals "int" = some none)
    (z_bool : PySem.W.nsIn K mainGlobals "bool" = some none)
    (z_abs : PySem.W.nsIn K mainGlobals "abs" = some none)
    (z_iter : PySem.W.nsIn K mainGlobals "iter" = some none)
    (z_super : PySem.W.nsIn K mainGlobals "super" = some none)
    (pw : PySem.W.nsIn K mainGlobals "PAGE_WORDS" = some (some (.int 8 tkP)))
    (eC : PySem.W.nsIn K mainGlobals "StoreError" = some (some (.ref C)))
    (eL : K.lookup C = some (excClassObj nm qn C N bs bm true sn sub ab col dd m0 m1 m2 m3 m5 "ValueError.__new__"))
    (eR : refsVE bm = true)
    (esa : PySem.W.findIn K (.ref C) "__setattr__" = some (some (.builtin "object.__setattr__")))
    (ega : PySem.W.findIn K (.ref C) "__getattribute__" = some (some (.builtin "BaseException.__getattribute__")))
    (egg : PySem.W.findIn K (.ref C) "__getattr__" = some none)
    (enr : PySem.W.findIn K (.ref C) "reason" = some none)
    (eI : PySem.W.findIn K (.ref C) "__init__" = some (some (.ref fI)))
    (eT : PySem.W.typeIn K (.ref fI) = some (.type "function"))
    (eK : PySem.W.keepIn K (.ref C) = true)
    (eB : PySem.W.subIn K (.ref C) (.type "BaseException") = some true)
    (eV : PySem.W.subIn K (.ref C) (.type "ValueError") = some true)
    (eY : PySem.W.typeIn K (.ref C) = some (.type "type"))
    (eD : PySem.W.hasDictIn K C = true)
    (eX : PySem.W.isClsIn K C = true)
    (eS : PySem.W.subIn K (.ref C) (.ref C) = some true)
    (eU : PySem.W.ks_superIn K C C "__init__" = some (some (.builtin "ValueError.__init__")))
    (eM : PySem.W.mroIn K C (.ref C) = some true)
    (eO : PySem.W.nsIn K cStatics "thirdparty.any" = some none)
    (eF : K.lookup fI = some ⟨ocI, odI, .func (EscR.seFd docI pmI anI cda ctI cc), slI⟩)
    (eP : PySem.W.codeIn K (.ref cda) "StoreError.__init__" = true)
    (eQ : K.lookup cc = some ⟨clc, cld, .cell (some (.ref C)), csl⟩)
    (eW : K.lookup cda = some ⟨ccl, cdd, .fields vsC, ccs⟩)
    (eZ : vsC[2]? = some (.str file tf))
    (eFi : ((l.prog.main.file : Str) == file) = true)
    (eTn : (l.prog.main.scope.names.lookup ("super" : Str)).isSome = false)
    : ∃ fd : FuncData, (∀ (s : Shared) (v : Value), BindsTo s fd ⟨[v], []⟩ [("_law_script", v)]) ∧ ∀ base : Heap, K.In base → base.Ns mainGlobals mg → FnOk l.prog w K mg base CX0 6 fa fd ["_law_script"] (spLaw K) := by
  have e := hfa.symm.trans (PySem.W.mg_of X G a21)
  cases e
  have clS : Cls K CS := ⟨pgCS, hdCS, poCS, saCS⟩
  have clR : Cls K CR := ⟨pgCR, hdCR, poCR, saCR⟩
  have T : Txt K mg CS CR := ⟨clS, clR, nW, nO, nR, nX, nL, nA, nP, nM, PySem.W.mg_of X G mCS, PySem.W.mg_of X G mCR, PySem.W.mg_none_of X G z_len, PySem.W.mg_none_of X G z_range, PySem.W.mg_none_of X G z_list, PySem.W.mg_none_of X G z_enumerate, PySem.W.mg_none_of X G z_sum, PySem.W.mg_none_of X G z_isinstance, PySem.W.mg_none_of X G z_int, PySem.W.mg_none_of X G z_bool, PySem.W.mg_none_of X G z_abs, PySem.W.mg_none_of X G z_iter, ⟨_, PySem.W.mg_of X G pw⟩⟩
  have ST : EscR.SeTxt l.prog K mg C fI cc cda := ⟨PySem.W.mg_of X G eC, PySem.W.mg_none_of X G z_super, ⟨_, _, _, _, _, _, _, _, _, _, _, _, _, _, _, eL, eR⟩, esa, ega, egg, enr, eI, eT, eK, eB, eV, eY, eD, exm_own eB eX eY eS, eU, eM, eO, ⟨_, _, _, _, _, _, _, eF⟩, eP, ⟨_, _, _, eQ⟩, ⟨_, _, _, _, _, _, eW, eZ, eFi⟩, eTn, by decide +kernel⟩
  have F1 := fun_mk (st := sIsInt) l1 c1 k1
  have b1 := F1.binds (ps := ["value"]) fun _ _ _ _ _ _ us hl => match us, hl with | [_], _ => rfl
  have F2 := fun_mk (st := lStart) l2 c2 k2
  have b2 := F2.binds (ps := ["_law_script"]) fun _ _ _ _ _ _ us hl => match us, hl with | [_], _ => rfl
  have F3 := fun_mk (st := lDraw) l3 c3 k3
  have b3 := F3.binds (ps := ["_law_state", "_law_many"]) fun _ _ _ _ _ _ us hl => match us, hl with | [_, _], _ => rfl
  have F4 := fun_mk (st := lNew) l4 c4 k4
  have b4 := F4.binds (ps := []) fun _ _ _ _ _ _ us hl => match us, hl with | [], _ => rfl
  have F5 := fun_mk (st := lBegin) l5 c5 k5
  have b5 := F5.binds (ps := ["_law_model"]) fun _ _ _ _ _ _ us hl => match us, hl with | [_], _ => rfl
  have F6 := fun_mk (st := lPages) l6 c6 k6
  have b6 := F6.binds (ps := ["_law_model", "_law_many"]) fun _ _ _ _ _ _ us hl => match us, hl with | [_, _], _ => rfl
  have F7 := fun_mk (st := lPagesFor) l7 c7 k7
  have b7 := F7.binds (ps := ["_law_model", "_law_region_here", "_law_many"]) fun _ _ _ _ _ _ us hl => match us, hl with | [_, _, _], _ => rfl
  have F8 := fun_mk (st := lCell) l8 c8 k8
  have b8 := F8.binds (ps := ["_law_model", "_law_region_here", "_law_words"]) fun _ _ _ _ _ _ us hl => match us, hl with | [_, _, _], _ => rfl
  have F9 := fun_mk (st := lEnd) l9 c9 k9
  have b9 := F9.binds (ps := ["_law_model", "_law_region_here"]) fun _ _ _ _ _ _ us hl => match us, hl with | [_, _], _ => rfl
  have F10 := fun_mk (st := lOwner) l10 c10 k10
  have b10 := F10.binds (ps := ["_law_model", "_law_address_here"]) fun _ _ _ _ _ _ us hl => match us, hl with | [_, _], _ => rfl
  have F11 := fun_mk (st := lRead) l11 c11 k11
  have b11 := F11.binds (ps := ["_law_model", "_law_address_here"]) fun _ _ _ _ _ _ us hl => match us, hl with | [_, _], _ => rfl
  have F12 := fun_mk (st := lWrite) l12 c12 k12
  have b12 := F12.binds (ps := ["_law_model", "_law_address_here", "_law_word"]) fun _ _ _ _ _ _ us hl => match us, hl with | [_, _, _], _ => rfl
  have F13 := fun_mk (st := lHeld) l13 c13 k13
  have b13 := F13.binds (ps := ["_law_model"]) fun _ _ _ _ _ _ us hl => match us, hl with | [_], _ => rfl
  have F14 := fun_mk (st := lIsInt) l14 c14 k14
  have b14 := F14.binds (ps := ["_law_actual"]) fun _ _ _ _ _ _ us hl => match us, hl with | [_], _ => rfl
  have F15 := fun_mk (st := lSame) l15 c15 k15
  have b15 := F15.binds (ps := ["_law_store", "_law_model"]) fun _ _ _ _ _ _ us hl => match us, hl with | [_, _], _ => rfl
  have F16 := fun_mk (st := lAddress) l16 c16 k16
  have b16 := F16.binds (ps := ["_law_state", "_law_model", "_law_known"]) fun _ _ _ _ _ _ us hl => match us, hl with | [_, _, _], _ => rfl
  have F17 := fun_mk (st := lRegion) l17 c17 k17
  have b17 := F17.binds (ps := ["_law_state", "_law_model"]) fun _ _ _ _ _ _ us hl => match us, hl with | [_, _], _ => rfl
  have F18 := fun_mk (st := lOpen) l18 c18 k18
  have b18 := F18.binds (ps := ["_law_model", "_law_region_here"]) fun _ _ _ _ _ _ us hl => match us, hl with | [_, _], _ => rfl
  have F19 := fun_mk (st := lMake) l19 c19 k19
  have b19 := F19.binds (ps := ["_law_state", "_law_store", "_law_model", "_law_known"]) fun _ _ _ _ _ _ us hl => match us, hl with | [_, _, _, _], _ => rfl
  have F20 := fun_mk (st := lDeed) l20 c20 k20
  have b20 := F20.binds (ps := ["_law_state", "_law_store", "_law_model", "_law_known"]) fun _ _ _ _ _ _ us hl => match us, hl with | [_, _, _, _], _ => rfl
  have F21 := fun_mk (st := lLaw) l21 c21 k21
  have b21 := F21.binds (ps := ["_law_script"]) fun _ _ _ _ _ _ us hl => match us, hl with | [_], _ => rfl
  have F22 := fun_mk (st := sStore) l22 c22 k22
  have b22 := F22.binds (ps := ["self"]) fun _ _ _ _ _ _ us hl => match us, hl with | [_], _ => rfl
  have F23 := fun_mk (st := sRecord) l23 c23 k23
  have b23 := F23.binds (ps := ["self", "what", "region", "address"]) fun _ _ _ _ _ _ us hl => match us, hl with | [_, _, _, _], _ => rfl
  have F24 := fun_mk (st := sIsCur) l24 c24 k24
  have b24 := F24.binds (ps := ["self", "region"]) fun _ _ _ _ _ _ us hl => match us, hl with | [_, _], _ => rfl
  have F25 := fun_mk (st := sBegin) l25 c25 k25
  have b25 := F25.binds (ps := ["self"]) fun _ _ _ _ _ _ us hl => match us, hl with | [_], _ => rfl
  have F26 := fun_mk (st := sTake) l26 c26 k26
  have b26 := F26.binds (ps := ["self", "count", "region"]) fun _ _ _ _ _ _ us hl => match us, hl with | [_, _, _], _ => rfl
  have F27 := fun_mk (st := sCell) l27 c27 k27
  have b27 := F27.binds (ps := ["self", "region", "words"]) fun _ _ _ _ _ _ us hl => match us, hl with | [_, _, _], _ => rfl
  have F28 := fun_mk (st := sEnd) l28 c28 k28
  have b28 := F28.binds (ps := ["self", "region"]) fun _ _ _ _ _ _ us hl => match us, hl with | [_, _], _ => rfl
  have F29 := fun_mk (st := sOwner) l29 c29 k29
  have b29 := F29.binds (ps := ["self", "address"]) fun _ _ _ _ _ _ us hl => match us, hl with | [_, _], _ => rfl
  have F30 := fun_mk (st := sRead) l30 c30 k30
  have b30 := F30.binds (ps := ["self", "address"]) fun _ _ _ _ _ _ us hl => match us, hl with | [_, _], _ => rfl
  have F31 := fun_mk (st := sWrite) l31 c31 k31
  have b31 := F31.binds (ps := ["self", "address", "word"]) fun _ _ _ _ _ _ us hl => match us, hl with | [_, _, _], _ => rfl
  have F32 := fun_mk (st := sCurrent) l32 c32 k32
  have b32 := F32.binds (ps := ["self"]) fun _ _ _ _ _ _ us hl => match us, hl with | [_], _ => rfl
  have F33 := fun_mk (st := sLen) l33 c33 k33
  have b33 := F33.binds (ps := ["self"]) fun _ _ _ _ _ _ us hl => match us, hl with | [_], _ => rfl
  have F34 := fun_mk (st := sIter) l34 c34 k34
  have b34 := F34.binds (ps := ["self"]) fun _ _ _ _ _ _ us hl => match us, hl with | [_], _ => rfl
  have F35 := fun_mk (st := sContains) l35 c35 k35
  have b35 := F35.binds (ps := ["self", "address"]) fun _ _ _ _ _ _ us hl => match us, hl with | [_, _], _ => rfl
  have F36 := fun_mk (st := sHeld) l36 c36 k36
  have b36 := F36.binds (ps := ["self"]) fun _ _ _ _ _ _ us hl => match us, hl with | [_], _ => rfl
  have F37 := fun_mk (st := sPages) l37 c37 k37
  have b37 := F37.binds (ps := ["self"]) fun _ _ _ _ _ _ us hl => match us, hl with | [_], _ => rfl
  have F38 := fun_mk (st := sWaiting) l38 c38 k38
  have b38 := F38.binds (ps := ["self"]) fun _ _ _ _ _ _ us hl => match us, hl with | [_], _ => rfl
  have F39 := fun_mk (st := sReg) l39 c39 k39
  have b39 := F39.binds (ps := ["self"]) fun _ _ _ _ _ _ us hl => match us, hl with | [_], _ => rfl
  refine ⟨PySem.W.fnOf "law" "law" (defArgs lLaw) (defBody lLaw) (defScope lLaw) .none kV21 dc21 pm21 an21 cd21 ct21, fun s v => .of_eq rfl, fun base _ _ => ?_⟩
  have vI : C8.Cal l.prog w K mg base 1 "is_integer" spIsInt [] := ⟨_, _, _, [], ok_isint F1 T, PySem.W.mg_of X G a1, k1, b1, .nil⟩
  have kR : C8.Mak l.prog w K mg base 1 "RegionState" CR (spReg CR) [] := ⟨_, _, _, [], ⟨mkCR, a39, i39, kpCR⟩, ok_reg F39 T, PySem.W.mg_of X G mCR, b39, .nil⟩
  have kS : C8.Mak l.prog w K mg base 1 "Store" CS (spStore CS CR) [] := ⟨_, _, _, [], ⟨mkCS, a22, i22, kpCS⟩, ok_store F22 T, PySem.W.mg_of X G mCS, b22, .nil⟩
  have vRec : C8.Met l.prog w K mg base 1 CS "record" (spRecord CS) [] := ⟨_, _, _, [], clS, ⟨a23, i23, k23⟩, ok_record F23 T, b23, .nil⟩
  have vCur : C8.Met l.prog w K mg base 2 CS "is_current" (spIsCur CS CR) [] := ⟨_, _, _, [], clS, ⟨a24, i24, k24⟩, ok_iscur F24 T vI, b24, .nil⟩
  have vBeg : C8.Met l.prog w K mg base 3 CS "begin" (spBegin CS CR) [] := ⟨_, _, _, [], clS, ⟨a25, i25, k25⟩, ok_begin F25 T kR vRec, b25, .nil⟩
  have vTak : C8.Met l.prog w K mg base 1 CS "take" (spTake CS CR) [] := ⟨_, _, _, [], clS, ⟨a26, i26, k26⟩, ok_take F26 T, b26, .nil⟩
  have vCel : EscR.MetN l.prog w K mg base 3 CS "cell" (spCell CS CR C) := ⟨_, _, _, clS, ⟨a27, i27, k27⟩, ok_cell F27 T ST vCur vTak vRec, b27⟩
  have vEnd : EscR.MetN l.prog w K mg base 3 CS "end" (spEnd CS CR C) := ⟨_, _, _, clS, ⟨a28, i28, k28⟩, ok_end F28 T ST vCur vRec, b28⟩
  have vOwn : C8.Met l.prog w K mg base 1 CS "owner" (spOwner CS CR) [] := ⟨_, _, _, [], clS, ⟨a29, i29, k29⟩, ok_owner F29 T, b29, .nil⟩
  have vRea : C8.Met l.prog w K mg base 2 CS "read" (spRead CS CR) [] := ⟨_, _, _, [], clS, ⟨a30, i30, k30⟩, ok_read F30 T vOwn vRec, b30, .nil⟩
  have vWri : C8.Met l.prog w K mg base 2 CS "write" (spWrite CS CR) [] := ⟨_, _, _, [], clS, ⟨a31, i31, k31⟩, ok_write F31 T vOwn vRec, b31, .nil⟩
  have vLen : C8.Met l.prog w K mg base 1 CS "__len__" (spLen CS CR) [] := ⟨_, _, _, [], clS, ⟨a33, i33, k33⟩, ok_len F33 T, b33, .nil⟩
  have vIte : C8.Met l.prog w K mg base 1 CS "__iter__" (spIter CS CR) [] := ⟨_, _, _, [], clS, ⟨a34, i34, k34⟩, ok_iter F34 T, b34, .nil⟩
  have vCon : C8.Met l.prog w K mg base 1 CS "__contains__" (spContains CS CR) [] := ⟨_, _, _, [], clS, ⟨a35, i35, k35⟩, ok_contains F35 T, b35, .nil⟩
  have vCrt : GMet l.prog w K mg base 1 CS "current" (spCurrent CS CR) := ⟨_, _, _, clS, ⟨a32, i32, k32⟩, ok_current l32 c32 T, b32⟩
  have vHel : Prp l.prog w K mg base 1 CS "held" (spHeld CS CR) := ⟨_, _, _, clS, ⟨a36, g36, t36, _, r36⟩, ok_held F36 T, b36⟩
  have vPag : Prp l.prog w K mg base 1 CS "pages" (spPages CS CR) := ⟨_, _, _, clS, ⟨a37, g37, t37, _, r37⟩, ok_pages F37 T, b37⟩
  have vWai : Prp l.prog w K mg base 1 CS "waiting" (spWaiting CS CR) := ⟨_, _, _, clS, ⟨a38, g38, t38, _, r38⟩, ok_waiting F38 T, b38⟩
  have lI : C8.Cal l.prog w K mg base 1 "_law_is_integer" spIsInt [] := ⟨_, _, _, [], ok_lisint F14 T, PySem.W.mg_of X G a14, k14, b14, .nil⟩
  have lS : C8.Cal l.prog w K mg base 1 "_law_start" (spStart K) [] := ⟨_, _, _, [], ok_start F2 T, PySem.W.mg_of X G a2, k2, b2, .nil⟩
  have lD : C8.Cal l.prog w K mg base 1 "_law_draw" spDraw [] := ⟨_, _, _, [], ok_draw F3 T, PySem.W.mg_of X G a3, k3, b3, .nil⟩
  have lN : C8.Cal l.prog w K mg base 1 "_law_new" spNew [] := ⟨_, _, _, [], ok_new F4, PySem.W.mg_of X G a4, k4, b4, .nil⟩
  have lB : C8.Cal l.prog w K mg base 1 "_law_begin" spLBegin [] := ⟨_, _, _, [], ok_lbegin F5 T, PySem.W.mg_of X G a5, k5, b5, .nil⟩
  have lP : C8.Cal l.prog w K mg base 1 "_law_pages" spPg [] := ⟨_, _, _, [], ok_lpages F6 T, PySem.W.mg_of X G a6, k6, b6, .nil⟩
  have lPF : C8.Cal l.prog w K mg base 2 "_law_pages_for" spPF [] := ⟨_, _, _, [], ok_lpf F7 T lP, PySem.W.mg_of X G a7, k7, b7, .nil⟩
  have lC : C8.Cal l.prog w K mg base 3 "_law_cell" spLCell [] := ⟨_, _, _, [], ok_lcell F8 T lPF, PySem.W.mg_of X G a8, k8, b8, .nil⟩
  have lE : C8.Cal l.prog w K mg base 1 "_law_end" spLEnd [] := ⟨_, _, _, [], ok_lend F9 T, PySem.W.mg_of X G a9, k9, b9, .nil⟩
  have lO : C8.Cal l.prog w K mg base 1 "_law_owner" spLOwner [] := ⟨_, _, _, [], ok_lowner F10 T, PySem.W.mg_of X G a10, k10, b10, .nil⟩
  have lR : C8.Cal l.prog w K mg base 2 "_law_read" spLRead [] := ⟨_, _, _, [], ok_lread F11 T lO, PySem.W.mg_of X G a11, k11, b11, .nil⟩
  have lW : C8.Cal l.prog w K mg base 2 "_law_write" spLWrite [] := ⟨_, _, _, [], ok_lwrite F12 T lO, PySem.W.mg_of X G a12, k12, b12, .nil⟩
  have lH : C8.Cal l.prog w K mg base 1 "_law_held" spLHeld [] := ⟨_, _, _, [], ok_lheld F13 T, PySem.W.mg_of X G a13, k13, b13, .nil⟩
  have lSa : C8.Cal l.prog w K mg base 5 "_law_same" (spLSame CS CR) [] := ⟨_, _, _, [], ok_lsame F15 T lI lH vHel vPag vWai vLen vIte vCrt, PySem.W.mg_of X G a15, k15, b15, .nil⟩
  have lA : C8.Cal l.prog w K mg base 2 "_law_address" spLAddress [] := ⟨_, _, _, [], ok_laddress F16 T lD, PySem.W.mg_of X G a16, k16, b16, .nil⟩
  have lRg : C8.Cal l.prog w K mg base 2 "_law_region" spLRegion [] := ⟨_, _, _, [], ok_lregion F17 T lD, PySem.W.mg_of X G a17, k17, b17, .nil⟩
  have lOp : C8.Cal l.prog w K mg base 1 "_law_open" spLOpen [] := ⟨_, _, _, [], ok_lopen F18 T, PySem.W.mg_of X G a18, k18, b18, .nil⟩
  have hOp : EscR.CalH l.prog w K mg base 1 "_law_open" spLOpen := ⟨_, _, _, ok_lopenH l18 c18 T, PySem.W.mg_of X G a18, k18, b18⟩
  have lM : C8.Cal l.prog w K mg base 4 "_law_make" (spMake CS CR) [] := ⟨_, _, _, [], ok_make F19 T ST lD lRg lOp lI lC vCel, PySem.W.mg_of X G a19, k19, b19, .nil⟩
  have lDe : C8.Cal l.prog w K mg base 5 "_law_deed" (spDeed CS CR) [] := ⟨_, _, _, [], ok_deed F20 T ST lD lRg lOp hOp lI lB lM lE lA lW lR vBeg vEnd vWri vRea, PySem.W.mg_of X G a20, k20, b20, .nil⟩
  exact ok_law F21 T lS lD lN lDe lA lO lR lSa kS vOwn vCon vRea
theorem walk {l : PySem.W.OpenLaw} {q : Program} {loose : List Str} {XP : (Str → Option Value) → Heap → Prop} {YP : World → Heap → Prop} {d : DefRec} {K : Params → PySem.W.Frag} (hn : l.most = some 63) (hdf : d.params.defaults = [])
    (hY : ∀ (w : World) (h : Heap), YP w h → (K w.params).In h)
    (F : ∀ (w : World) (mg : Str → Option Value) (fa : Addr) (h : Heap), (K w.params).In h → h.Ns mainGlobals mg → mg d.name = some (.ref fa) →
      ∃ fd : FuncData, (∀ (s : Shared) (u : Value), BindsTo s fd ⟨[u], []⟩ [("_law_script", u)]) ∧ ∀ base : Heap, (K w.params).In base → base.Ns mainGlobals mg → FnOk l.prog w (K w.params) mg base CX0 6 fa fd ["_law_script"] (spLaw (K w.params))) :
    PySem.W.WalkO q loose XP YP l.row.toRowW d [] (fun f vs => PySem.call f vs) :=
  L2.walk_of (n := 63) (k := 6) (x := "_law_script") (CX := fun _ => CX0) (sp := fun w => spLaw (K w.params)) hn (by decide) hdf ⟨rfl, by decide, by decide⟩ hY F (fun _ _ a ns hl _ hS => ⟨a, ns, rfl, hS, hl, fun _ => rfl⟩) fun _ _ _ _ _ z => z
end Esc


open PySem PySem.W PyProof.Rows in
set_option maxRecDepth 100000 in
set_option maxHeartbeats 0 in
theorem PySem.Challenge.cw_escheat_k50_whole_store_model_holds : PySem.Challenge.rw_escheat_k50_whole_store_model.Holds := by
  w_on; o_law; k_head; (case hw => w_witness2)
  k_fill
  refine Esc.walk (l := PySem.Challenge.rw_escheat_k50_whole_store_model) rfl rfl (fun w h Y => PySem.W.kIn_of Y) ?F
  case F =>
    intro w mg fa h KX G hmg
    refine' Esc.all_mk KX G hmg ?a1 ?l1 ?c1 ?k1 ?a2 ?l2 ?c2 ?k2 ?a3 ?l3 ?c3 ?k3 ?a4 ?l4 ?c4 ?k4 ?a5 ?l5 ?c5 ?k5 ?a6 ?l6 ?c6 ?k6 ?a7 ?l7 ?c7 ?k7 ?a8 ?l8 ?c8 ?k8 ?a9 ?l9 ?c9 ?k9 ?a10 ?l10 ?c10 ?k10 ?a11 ?l11 ?c11 ?k11 ?a12 ?l12 ?c12 ?k12 ?a13 ?l13 ?c13 ?k13 ?a14 ?l14 ?c14 ?k14 ?a15 ?l15 ?c15 ?k15 ?a16 ?l16 ?c16 ?k16 ?a17 ?l17 ?c17 ?k17 ?a18 ?l18 ?c18 ?k18 ?a19 ?l19 ?c19 ?k19 ?a20 ?l20 ?c20 ?k20 ?a21 ?l21 ?c21 ?k21 ?a22 ?i22 ?l22 ?c22 ?k22 ?a23 ?i23 ?l23 ?c23 ?k23 ?a24 ?i24 ?l24 ?c24 ?k24 ?a25 ?i25 ?l25 ?c25 ?k25 ?a26 ?i26 ?l26 ?c26 ?k26 ?a27 ?i27 ?l27 ?c27 ?k27 ?a28 ?i28 ?l28 ?c28 ?k28 ?a29 ?i29 ?l29 ?c29 ?k29 ?a30 ?i30 ?l30 ?c30 ?k30 ?a31 ?i31 ?l31 ?c31 ?k31 ?a32 ?i32 ?l32 ?c32 ?k32 ?a33 ?i33 ?l33 ?c33 ?k33 ?a34 ?i34 ?l34 ?c34 ?k34 ?a35 ?i35 ?l35 ?c35 ?k35 ?a36 ?g36 ?t36 ?r36 ?l36 ?c36 ?k36 ?a37 ?g37 ?t37 ?r37 ?l37 ?c37 ?k37 ?a38 ?g38 ?t38 ?r38 ?l38 ?c38 ?k38 ?a39 ?i39 ?l39 ?c39 ?k39 ?mCS ?pgCS ?hdCS ?poCS ?saCS ?mkCS ?kpCS ?mCR ?pgCR ?hdCR ?poCR ?saCR ?mkCR ?kpCR ?nW ?nO ?nR ?nX ?nL ?nA ?nP ?nM ?z_len ?z_range ?z_list ?z_enumerate ?z_sum ?z_isinstance ?z_int ?z_bool ?z_abs ?z_iter ?z_super ?pw ?eC ?eL ?eR ?esa ?ega ?egg ?enr ?eI ?eT ?eK ?eB ?eV ?eY ?eD ?eX ?eS ?eU ?eM ?eO ?eF ?eP ?eQ ?eW ?eZ ?eFi ?eTn
    (case mCS => k_is)
    (case mCR => k_is)
    (case eC => k_is)
    (case a1 => k_is)
    (case l1 => k_is)
    (case c1 => k_is)
    (case k1 => k_is)
    (case a2 => k_is)
    (case l2 => k_is)
    (case c2 => k_is)
    (case k2 => k_is)
    (case a3 => k_is)
    (case l3 => k_is)
    (case c3 => k_is)
    (case k3 => k_is)
    (case a4 => k_is)
    (case l4 => k_is)
    (case c4 => k_is)
    (case k4 => k_is)
    (case a5 => k_is)
    (case l5 => k_is)
    (case c5 => k_is)
    (case k5 => k_is)
    (case a6 => k_is)
    (case l6 => k_is)
    (case c6 => k_is)
    (case k6 => k_is)
    (case a7 => k_is)
    (case l7 => k_is)
    (case c7 => k_is)
    (case k7 => k_is)
    (case a8 => k_is)
    (case l8 => k_is)
    (case c8 => k_is)
    (case k8 => k_is)
    (case a9 => k_is)
    (case l9 => k_is)
    (case c9 => k_is)
    (case k9 => k_is)
    (case a10 => k_is)
    (case l10 => k_is)
    (case c10 => k_is)
    (case k10 => k_is)
    (case a11 => k_is)
    (case l11 => k_is)
    (case c11 => k_is)
    (case k11 => k_is)
    (case a12 => k_is)
    (case l12 => k_is)
    (case c12 => k_is)
    (case k12 => k_is)
    (case a13 => k_is)
    (case l13 => k_is)
    (case c13 => k_is)
    (case k13 => k_is)
    (case a14 => k_is)
    (case l14 => k_is)
    (case c14 => k_is)
    (case k14 => k_is)
    (case a15 => k_is)
    (case l15 => k_is)
    (case c15 => k_is)
    (case k15 => k_is)
    (case a16 => k_is)
    (case l16 => k_is)
    (case c16 => k_is)
    (case k16 => k_is)
    (case a17 => k_is)
    (case l17 => k_is)
    (case c17 => k_is)
    (case k17 => k_is)
    (case a18 => k_is)
    (case l18 => k_is)
    (case c18 => k_is)
    (case k18 => k_is)
    (case a19 => k_is)
    (case l19 => k_is)
    (case c19 => k_is)
    (case k19 => k_is)
    (case a20 => k_is)
    (case l20 => k_is)
    (case c20 => k_is)
    (case k20 => k_is)
    (case a21 => k_is)
    (case l21 => k_is)
    (case c21 => k_is)
    (case k21 => k_is)
    (case a22 => k_is)
    (case i22 => k_is)
    (case l22 => k_is)
    (case c22 => k_is)
    (case k22 => k_is)
    (case a23 => k_is)
    (case i23 => k_is)
    (case l23 => k_is)
    (case c23 => k_is)
    (case k23 => k_is)
    (case a24 => k_is)
    (case i24 => k_is)
    (case l24 => k_is)
    (case c24 => k_is)
    (case k24 => k_is)
    (case a25 => k_is)
    (case i25 => k_is)
    (case l25 => k_is)
    (case c25 => k_is)
    (case k25 => k_is)
    (case a26 => k_is)
    (case i26 => k_is)
    (case l26 => k_is)
    (case c26 => k_is)
    (case k26 => k_is)
    (case a27 => k_is)
    (case i27 => k_is)
    (case l27 => k_is)
    (case c27 => k_is)
    (case k27 => k_is)
    (case a28 => k_is)
    (case i28 => k_is)
    (case l28 => k_is)
    (case c28 => k_is)
    (case k28 => k_is)
    (case a29 => k_is)
    (case i29 => k_is)
    (case l29 => k_is)
    (case c29 => k_is)
    (case k29 => k_is)
    (case a30 => k_is)
    (case i30 => k_is)
    (case l30 => k_is)
    (case c30 => k_is)
    (case k30 => k_is)
    (case a31 => k_is)
    (case i31 => k_is)
    (case l31 => k_is)
    (case c31 => k_is)
    (case k31 => k_is)
    (case a32 => k_is)
    (case i32 => k_is)
    (case l32 => k_is)
    (case c32 => k_is)
    (case k32 => k_is)
    (case a33 => k_is)
    (case i33 => k_is)
    (case l33 => k_is)
    (case c33 => k_is)
    (case k33 => k_is)
    (case a34 => k_is)
    (case i34 => k_is)
    (case l34 => k_is)
    (case c34 => k_is)
    (case k34 => k_is)
    (case a35 => k_is)
    (case i35 => k_is)
    (case l35 => k_is)
    (case c35 => k_is)
    (case k35 => k_is)
    (case a36 => k_is)
    (case g36 => k_is)
    (case t36 => k_is)
    (case r36 => k_is)
    (case l36 => k_is)
    (case c36 => k_is)
    (case k36 => k_is)
    (case a37 => k_is)
    (case g37 => k_is)
    (case t37 => k_is)
    (case r37 => k_is)
    (case l37 => k_is)
    (case c37 => k_is)
    (case k37 => k_is)
    (case a38 => k_is)
    (case g38 => k_is)
    (case t38 => k_is)
    (case r38 => k_is)
    (case l38 => k_is)
    (case c38 => k_is)
    (case k38 => k_is)
    (case a39 => k_is)
    (case i39 => k_is)
    (case l39 => k_is)
    (case c39 => k_is)
    (case k39 => k_is)
    (case pgCS => k_is)
    (case hdCS => k_is)
    (case poCS => k_is)
    (case saCS => k_is)
    (case mkCS => k_is)
    (case kpCS => k_is)
    (case pgCR => k_is)
    (case hdCR => k_is)
    (case poCR => k_is)
    (case saCR => k_is)
    (case mkCR => k_is)
    (case kpCR => k_is)
    (case nW => k_is)
    (case nO => k_is)
    (case nR => k_is)
    (case nX => k_is)
    (case nL => k_is)
    (case nA => k_is)
    (case nP => k_is)
    (case nM => k_is)
    (case z_len => k_is)
    (case z_range => k_is)
    (case z_list => k_is)
    (case z_enumerate => k_is)
    (case z_sum => k_is)
    (case z_isinstance => k_is)
    (case z_int => k_is)
    (case z_bool => k_is)
    (case z_abs => k_is)
    (case z_iter => k_is)
    (case z_super => k_is)
    (case pw => k_is)
    (case eL => k_is)
    (case eR => decide +kernel)
    (case esa => k_is)
    (case ega => k_is)
    (case egg => k_is)
    (case enr => k_is)
    (case eI => k_is)
    (case eT => k_is)
    (case eK => k_is)
    (case eB => k_is)
    (case eV => k_is)
    (case eY => k_is)
    (case eD => k_is)
    (case eX => k_is)
    (case eS => k_is)
    (case eU => ks_is)
    (case eM => k_is)
    (case eO => k_is)
    (case eF => k_is)
    (case eP => k_is)
    (case eQ => k_is)
    (case eW => k_is)
    (case eZ => rfl)
    (case eFi => rfl)
    (case eTn => rfl)

