import PyProof.Rows.All
import Wide.All
import OpenK.AllK
import Wide.FinOn
import Open.SpecLaws
import KE.OsGo
import HandS.ForSpec
import HandS.ForMost
import HandS.Zip
import HandS.Rev
import HandS.SortInts
import HandS.More
import PySem.Challenge.RW_clearyard_s01_answers
set_option Elab.async false
set_option linter.all false
set_option maxRecDepth 100000
set_option maxHeartbeats 4000000
namespace Cy
open Km259

/-! ### bytes of numbers -/
theorem le_snoc (w v : Nat) : le (w + 1) v = le w v ++ [v / 256 ^ w % 256] := by
  unfold le
  rw [List.range_succ, List.map_append]
  rfl
theorem le_cons (w v : Nat) : le (w + 1) v = v % 256 :: le w (v / 256) := by
  unfold le
  rw [List.range_succ_eq_map, List.map_cons, List.map_map, Nat.pow_zero, Nat.div_one]
  congr 1
  apply List.map_congr_left
  intro i _
  show v / 256 ^ (i + 1) % 256 = v / 256 / 256 ^ i % 256
  rw [Nat.pow_succ, Nat.mul_comm, Nat.div_div_eq_div_mul]
theorem le_length (w v : Nat) : (le w v).length = w := by
  unfold le
  rw [List.length_map, List.length_range]
theorem le_lt (w v : Nat) : ∀ b ∈ le w v, b < 256 := by
  intro b hb
  unfold le at hb
  obtain ⟨i, _, rfl⟩ := List.mem_map.mp hb
  exact Nat.mod_lt _ (by decide)
def numOf (l : List Nat) : Nat := l.foldr (fun b v => b + 256 * v) 0
theorem numOf_cons (b : Nat) (l : List Nat) : numOf (b :: l) = b + 256 * numOf l := rfl
theorem at_eq (l : List Nat) (k w : Nat) : at_ l k w = numOf ((l.drop k).take w) := rfl
theorem le_numOf : ∀ (l : List Nat), (∀ b ∈ l, b < 256) → le l.length (numOf l) = l
  | [], _ => rfl
  | b :: l, h => by
    have hb : b < 256 := h b (List.mem_cons_self ..)
    have ih := le_numOf l fun x hx => h x (List.mem_cons_of_mem _ hx)
    rw [List.length_cons, le_cons, numOf_cons]
    have e1 : (b + 256 * numOf l) % 256 = b := by omega
    have e2 : (b + 256 * numOf l) / 256 = numOf l := by omega
    rw [e1, e2, ih]
theorem numOf_le : ∀ (w v : Nat), v < 256 ^ w → numOf (le w v) = v
  | 0, v, h => by
    have e : v = 0 := by
      rw [Nat.pow_zero] at h
      omega
    subst e
    rfl
  | w + 1, v, h => by
    rw [le_cons, numOf_cons, numOf_le w (v / 256) (by rw [Nat.pow_succ] at h; omega)]
    omega
/-! ### the check -/
theorem crcBit_lt {c : Nat} (h : c < 2 ^ 32) : crcBit c < 2 ^ 32 := by
  unfold crcBit
  split
  · exact Nat.xor_lt_two_pow (by omega) (by decide)
  · omega
theorem crcBits_lt : ∀ (n c : Nat), c < 2 ^ 32 → (List.range n).foldl (fun x _ => crcBit x) c < 2 ^ 32
  | 0, c, h => h
  | n + 1, c, h => by
    rw [List.range_succ, List.foldl_append]
    exact crcBit_lt (crcBits_lt n c h)
theorem crcByte_lt {c b : Nat} (h : c < 2 ^ 32) (hb : b < 256) : crcByte c b < 2 ^ 32 :=
  crcBits_lt 8 _ (Nat.xor_lt_two_pow h (by omega))
theorem crcFold_lt : ∀ (l : List Nat) (c : Nat), c < 2 ^ 32 → (∀ b ∈ l, b < 256) → l.foldl crcByte c < 2 ^ 32
  | [], _, h, _ => h
  | b :: l, _, h, hb => crcFold_lt l _ (crcByte_lt h (hb b (List.mem_cons_self ..))) fun x hx => hb x (List.mem_cons_of_mem _ hx)
theorem crc_lt (l : List Nat) (hb : ∀ b ∈ l, b < 256) : crc l < 2 ^ 32 :=
  Nat.xor_lt_two_pow (crcFold_lt l _ (by decide) hb) (by decide)
/-! ### what is right -/
def parts (row : List Nat) : Msg := ⟨at_ row 0 1, at_ row 1 1, at_ row 2 1, at_ row 4 4, at_ row 8 4⟩
def numsB (m : Msg) : Bool := if (m.kind = 1 ∨ m.kind = 2) ∧ m.number = 0 then false else if (m.kind = 4 ∨ m.kind = 6) ∧ m.number ≠ 0 then false else decide (decide (m.tag = 0) = decide (m.kind = 2))
def fitsB (kinds : List Nat) (m : Msg) (z : Nat) : Bool := if m.kind ∉ kinds ∨ 7 < m.gate ∨ 1 < m.in_ ∨ z ≠ 0 then false else decide (m.in_ = 0 ∨ m.kind = 1) && numsB m
def checks (row : List Nat) : Bool := decide (row.length = 16) && decide (numOf (row.drop 12) = crc (row.take 12))
theorem uncons {α : Type} : ∀ {l : List α} {n : Nat}, l.length = n + 1 → ∃ a r, l = a :: r ∧ r.length = n
  | a :: r, _, h => ⟨a, r, rfl, Nat.succ.inj h⟩
theorem sixteen {l : List Nat} (hl : l.length = 16) : ∃ a b c d e f g h i j k m n o p q, l = [a, b, c, d, e, f, g, h, i, j, k, m, n, o, p, q] := by
  obtain ⟨a, l0, e0, h0⟩ := uncons hl
  obtain ⟨b, l1, e1, h1⟩ := uncons h0
  obtain ⟨c, l2, e2, h2⟩ := uncons h1
  obtain ⟨d, l3, e3, h3⟩ := uncons h2
  obtain ⟨e, l4, e4, h4⟩ := uncons h3
  obtain ⟨f, l5, e5, h5⟩ := uncons h4
  obtain ⟨g, l6, e6, h6⟩ := uncons h5
  obtain ⟨h, l7, e7, h7⟩ := uncons h6
  obtain ⟨i, l8, e8, h8⟩ := uncons h7
  obtain ⟨j, l9, e9, h9⟩ := uncons h8
  obtain ⟨k, l10, e10, h10⟩ := uncons h9
  obtain ⟨m, l11, e11, h11⟩ := uncons h10
  obtain ⟨n, l12, e12, h12⟩ := uncons h11
  obtain ⟨o, l13, e13, h13⟩ := uncons h12
  obtain ⟨p, l14, e14, h14⟩ := uncons h13
  obtain ⟨q, l15, e15, h15⟩ := uncons h14
  have ez := List.length_eq_zero_iff.mp h15
  subst ez
  subst e15
  subst e14
  subst e13
  subst e12
  subst e11
  subst e10
  subst e9
  subst e8
  subst e7
  subst e6
  subst e5
  subst e4
  subst e3
  subst e2
  subst e1
  subst e0
  exact ⟨a, b, c, d, e, f, g, h, i, j, k, m, n, o, p, q, rfl⟩
theorem at_one {a : Nat} {r : List Nat} : at_ (a :: r) 0 1 = a := by
  show a + 256 * 0 = a
  omega
theorem at_drop (l : List Nat) (k w : Nat) : at_ l k w = at_ (l.drop k) 0 w := rfl
theorem take12 {l : List Nat} (hl : l.length = 16) : l.take 12 = [at_ l 0 1, at_ l 1 1, at_ l 2 1, at_ l 3 1] ++ (l.drop 4).take 4 ++ (l.drop 8).take 4 := by
  obtain ⟨a, b, c, d, e, f, g, h, i, j, k, m, n, o, p, q, rfl⟩ := sixteen hl
  rfl
theorem half_eq {l : List Nat} (hl : l.length = 16) (hb : ∀ b ∈ l, b < 256) (hz : at_ l 3 1 = 0) : (parts l).half = l.take 12 := by
  have e1 := le_numOf ((l.drop 4).take 4) (fun x hx => hb x (List.mem_of_mem_drop (List.mem_of_mem_take hx)))
  have e2 := le_numOf ((l.drop 8).take 4) (fun x hx => hb x (List.mem_of_mem_drop (List.mem_of_mem_take hx)))
  have n1 : ((l.drop 4).take 4).length = 4 := by rw [List.length_take, List.length_drop, hl]; rfl
  have n2 : ((l.drop 8).take 4).length = 4 := by rw [List.length_take, List.length_drop, hl]; rfl
  rw [n1] at e1
  rw [n2] at e2
  rw [take12 hl, hz]
  show [at_ l 0 1, at_ l 1 1, at_ l 2 1, 0] ++ le 4 (numOf ((l.drop 4).take 4)) ++ le 4 (numOf ((l.drop 8).take 4)) = _
  rw [e1, e2]
theorem parse_eq {l : List Nat} (hb : ∀ b ∈ l, b < 256) : parse l = if checks l = true ∧ at_ l 3 1 = 0 then some (parts l) else none := by
  unfold parse
  show (if l.length = 16 ∧ l = (parts l).bytes then some (parts l) else none) = _
  by_cases hl : l.length = 16
  · by_cases hz : at_ l 3 1 = 0
    · have hh := half_eq hl hb hz
      have h12 : ∀ b ∈ l.take 12, b < 256 := fun b m => hb b (List.mem_of_mem_take m)
      have hd : ∀ b ∈ l.drop 12, b < 256 := fun b m => hb b (List.mem_of_mem_drop m)
      have key : l = (parts l).bytes ↔ numOf (l.drop 12) = crc (l.take 12) := by
        unfold Msg.bytes
        rw [hh]
        constructor
        · intro e
          have e2 : l.drop 12 = le 4 (crc (l.take 12)) := by
            exact List.append_cancel_left ((List.take_append_drop 12 l).trans e)
          rw [e2]
          exact numOf_le 4 _ (crc_lt _ h12)
        · intro e
          have e2 := le_numOf (l.drop 12) hd
          have e3 : (l.drop 12).length = 4 := by rw [List.length_drop, hl]
          rw [e3, e] at e2
          rw [e2]
          exact (List.take_append_drop 12 l).symm
      by_cases hc : numOf (l.drop 12) = crc (l.take 12)
      · rw [if_pos ⟨hl, key.mpr hc⟩, if_pos ⟨by unfold checks; simp [hl, hc], hz⟩]
      · rw [if_neg (fun z => hc (key.mp z.2)), if_neg (fun z => hc (by have := z.1; unfold checks at this; simp [hl] at this; exact this))]
    · rw [if_neg (fun z => hz ?_), if_neg (fun z => hz z.2)]
      have e := z.2
      have e4 : l.drop 3 = (parts l).bytes.drop 3 := congrArg (List.drop 3) e
      rw [at_eq, e4]
      rfl
  · rw [if_neg (fun z => hl z.1), if_neg (fun z => hl (by have := z.1; unfold checks at this; simp at this; exact this.1))]
theorem right_eq {kinds : List Nat} (hk : ∀ k ∈ kinds, k = 1 ∨ k = 2 ∨ k = 4 ∨ k = 5 ∨ k = 6) (m : Msg) : (m.right = true ∧ m.kind ∈ kinds) ↔ fitsB kinds m 0 = true := by
  unfold fitsB
  by_cases hm : m.kind ∈ kinds
  · have h5 := hk _ hm
    unfold Msg.right numsB
    rcases h5 with h | h | h | h | h <;> simp [h, h ▸ hm] <;> omega
  · simp [hm]
theorem rightOf_eq {kinds : List Nat} (hk : ∀ k ∈ kinds, k = 1 ∨ k = 2 ∨ k = 4 ∨ k = 5 ∨ k = 6) {l : List Nat} (hb : ∀ b ∈ l, b < 256) :
    rightOf kinds l l.length = if checks l = true ∧ fitsB kinds (parts l) (at_ l 3 1) = true then some (parts l) else none := by
  unfold rightOf
  by_cases hl : l.length = 16
  · rw [if_neg (fun z => z hl), parse_eq hb]
    by_cases hc : checks l = true
    · by_cases hz : at_ l 3 1 = 0
      · rw [if_pos ⟨hc, hz⟩]
        show (if (parts l).right = true ∧ (parts l).kind ∈ kinds then some (parts l) else none) = _
        by_cases hr : fitsB kinds (parts l) 0 = true
        · rw [if_pos ((right_eq hk _).mpr hr), if_pos ⟨hc, by rw [hz]; exact hr⟩]
        · rw [if_neg (fun z => hr ((right_eq hk _).mp z)), if_neg (fun z => hr (by have := z.2; rw [hz] at this; exact this))]
      · rw [if_neg (fun z => hz z.2), if_neg (fun z => ?_)]
        have h2 := z.2
        unfold fitsB at h2
        rw [if_pos (Or.inr (Or.inr (Or.inr hz)))] at h2
        cases h2
    · rw [if_neg (fun z => hc z.1), if_neg (fun z => hc z.1)]
  · rw [if_pos hl, if_neg (fun z => hl (by have := z.1; unfold checks at this; simp at this; exact this.1))]
end Cy

namespace Cy
open Km259

/-! ### balances -/
def valOf (L : List (Nat × Int)) (t : Nat) : Option Int := (L.find? fun x => x.1 == t).map Prod.snd
def putL (L : List (Nat × Int)) (t : Nat) (v : Int) : List (Nat × Int) := if (L.any fun p => decide (p.1 = t)) = true then L.map (fun p => if p.1 = t then (p.1, v) else p) else L ++ [(t, v)]
def dropL (L : List (Nat × Int)) (t : Nat) : List (Nat × Int) := L.filter fun x => x.1 != t
theorem of_eq (c : Centre) (t : Nat) : c.of t = (valOf c.balance t).getD 0 := rfl
theorem valOf_nil (t : Nat) : valOf [] t = none := rfl
theorem valOf_pos {p : Nat × Int} {r : List (Nat × Int)} {t : Nat} (e : p.1 = t) : valOf (p :: r) t = some p.2 := by
  unfold valOf
  rw [List.find?_cons_of_pos (by rw [e]; exact beq_self_eq_true t)]
  rfl
theorem valOf_neg {p : Nat × Int} {r : List (Nat × Int)} {t : Nat} (e : ¬ p.1 = t) : valOf (p :: r) t = valOf r t := by
  unfold valOf
  rw [List.find?_cons_of_neg (by intro z; exact e (eq_of_beq z))]
theorem valOf_mem : ∀ {L : List (Nat × Int)} {t : Nat} {v : Int}, (L.map (·.1)).Nodup → (valOf L t = some v ↔ (t, v) ∈ L)
  | [], t, v, _ => by simp [valOf_nil]
  | p :: r, t, v, h => by
    rw [List.map_cons, List.nodup_cons] at h
    have ih := valOf_mem (t := t) (v := v) h.2
    by_cases e : p.1 = t
    · rw [valOf_pos e, List.mem_cons]
      constructor
      · intro z
        have z := Option.some.inj z
        left
        rw [← e, ← z]
      · rintro (z | z)
        · rw [← z]
        · exact absurd (List.mem_map.mpr ⟨_, z, rfl⟩) (e ▸ h.1)
    · rw [valOf_neg e, ih, List.mem_cons]
      constructor
      · exact Or.inr
      · rintro (z | z)
        · exact absurd (by rw [← z]) e
        · exact z
theorem valOf_none {L : List (Nat × Int)} {t : Nat} : valOf L t = none ↔ ∀ p ∈ L, p.1 ≠ t := by
  induction L with
  | nil => simp [valOf_nil]
  | cons p r ih =>
    by_cases e : p.1 = t
    · rw [valOf_pos e]
      simp [e]
    · rw [valOf_neg e, ih]
      simp [e]
theorem valOf_perm {L M : List (Nat × Int)} (h : L.Perm M) (n : (L.map (·.1)).Nodup) (t : Nat) : valOf L t = valOf M t := by
  have n2 : (M.map (·.1)).Nodup := (h.map _).nodup_iff.mp n
  cases e : valOf L t with
  | some v => exact ((valOf_mem n2).mpr (h.mem_iff.mp ((valOf_mem n).mp e))).symm
  | none =>
    cases e2 : valOf M t with
    | none => rfl
    | some v =>
      have := (valOf_mem n).mpr (h.mem_iff.mpr ((valOf_mem n2).mp e2))
      rw [e] at this
      cases this
theorem dropL_no {L : List (Nat × Int)} {t : Nat} (h : ∀ p ∈ L, p.1 ≠ t) : dropL L t = L :=
  List.filter_eq_self.mpr fun p m => bne_iff_ne.mpr (h p m)
theorem putMap_no {L : List (Nat × Int)} {t : Nat} {v : Int} (h : ∀ p ∈ L, p.1 ≠ t) : L.map (fun p => if p.1 = t then (p.1, v) else p) = L := by
  have e : L.map (fun p => if p.1 = t then (p.1, v) else p) = L.map id := List.map_congr_left fun p m => if_neg (h p m)
  rw [e, List.map_id]
theorem putMap_perm : ∀ {L : List (Nat × Int)} {t : Nat} {v : Int}, (L.map (·.1)).Nodup → (∃ p ∈ L, p.1 = t) → (L.map fun p => if p.1 = t then (p.1, v) else p).Perm (dropL L t ++ [(t, v)])
  | [], _, _, _, ⟨_, m, _⟩ => absurd m (by simp)
  | q :: r, t, v, h, hm => by
    rw [List.map_cons, List.nodup_cons] at h
    by_cases e : q.1 = t
    · have hr : ∀ p ∈ r, p.1 ≠ t := fun p m z => h.1 (List.mem_map.mpr ⟨p, m, z.trans e.symm⟩)
      rw [List.map_cons, if_pos e, putMap_no hr]
      have ed : dropL (q :: r) t = r := by
        unfold dropL
        rw [List.filter_cons_of_neg (by simp [e])]
        exact dropL_no hr
      rw [ed, e]
      exact List.perm_append_comm (l₁ := [(t, v)])
    · have hm' : ∃ p ∈ r, p.1 = t := by
        obtain ⟨p, m, z⟩ := hm
        rcases List.mem_cons.mp m with rfl | m
        · exact absurd z e
        · exact ⟨p, m, z⟩
      rw [List.map_cons, if_neg e]
      have ed : dropL (q :: r) t = q :: dropL r t := by
        unfold dropL
        rw [List.filter_cons_of_pos (by simp [e])]
      rw [ed]
      exact (putMap_perm h.2 hm').cons q
theorem putL_perm {L : List (Nat × Int)} {t : Nat} {v : Int} (h : (L.map (·.1)).Nodup) : (putL L t v).Perm (dropL L t ++ [(t, v)]) := by
  unfold putL
  split
  · rename_i ha
    obtain ⟨p, m, e⟩ := List.any_eq_true.mp ha
    exact putMap_perm h ⟨p, m, of_decide_eq_true e⟩
  · rename_i ha
    have hr : ∀ p ∈ L, p.1 ≠ t := fun p m z => ha (List.any_eq_true.mpr ⟨p, m, decide_eq_true z⟩)
    rw [dropL_no hr]
theorem drop_putL {L : List (Nat × Int)} {t : Nat} {v : Int} : dropL (putL L t v) t = dropL L t := by
  unfold putL
  split
  · unfold dropL
    rw [List.filter_map]
    have e : L.filter ((fun x => x.1 != t) ∘ fun p => if p.1 = t then (p.1, v) else p) = L.filter fun x => x.1 != t := by
      apply List.filter_congr
      intro p _
      show ((if p.1 = t then (p.1, v) else p).1 != t) = (p.1 != t)
      split <;> rfl
    rw [e]
    have e2 : (L.filter fun x => x.1 != t).map (fun p => if p.1 = t then (p.1, v) else p) = (L.filter fun x => x.1 != t).map id := by
      apply List.map_congr_left
      intro p m
      have := (List.mem_filter.mp m).2
      exact if_neg (bne_iff_ne.mp this)
    rw [e2, List.map_id]
  · unfold dropL
    rw [List.filter_append]
    simp
theorem dropL_perm {L M : List (Nat × Int)} (h : L.Perm M) (t : Nat) : (dropL L t).Perm (dropL M t) := h.filter _
theorem dropL_keys {L : List (Nat × Int)} {t : Nat} (h : (L.map (·.1)).Nodup) : ((dropL L t).map (·.1)).Nodup := h.sublist ((List.filter_sublist).map _)
theorem dropL_not {L : List (Nat × Int)} {t : Nat} : ∀ p ∈ dropL L t, p.1 ≠ t := fun p m => bne_iff_ne.mp (List.mem_filter.mp m).2
theorem snoc_keys {L : List (Nat × Int)} {t : Nat} {v : Int} (h : (L.map (·.1)).Nodup) (hn : ∀ p ∈ L, p.1 ≠ t) : ((L ++ [(t, v)]).map (·.1)).Nodup := by
  rw [List.map_append]
  refine List.nodup_append.mpr ⟨h, by simp, ?_⟩
  intro a ha b hb
  obtain ⟨p, m, rfl⟩ := List.mem_map.mp ha
  have : b = t := by simpa using hb
  rw [this]
  exact hn p m
theorem dropL_length {L : List (Nat × Int)} {t : Nat} {v : Int} (h : valOf L t = some v) : (dropL L t).length < L.length := by
  have hm : ∃ p ∈ L, p.1 = t := by
    apply Classical.byContradiction
    intro z
    have : valOf L t = none := valOf_none.mpr fun p m e => z ⟨p, m, e⟩
    rw [h] at this
    cases this
  obtain ⟨p, m, e⟩ := hm
  have hs : (dropL L t).Sublist L := List.filter_sublist
  apply Classical.byContradiction
  intro z
  have := hs.eq_of_length_le (by omega)
  have m2 : p ∈ dropL L t := by rw [this]; exact m
  exact dropL_not p m2 e

/-! ### the centre's invariant -/
structure COk (c : Centre) : Prop where
  len : c.confirmed.length = c.had.length
  lo : 1 ≤ c.had.length
  hi : c.had.length ≤ 8
  nd : (c.balance.map (·.1)).Nodup
  nz : ∀ p ∈ c.balance, p.2 ≠ 0
  few : c.balance.length ≤ 256
theorem of_ne {c : Centre} (h : COk c) (t : Nat) : c.of t ≠ 0 ↔ (valOf c.balance t).isSome = true := by
  rw [of_eq]
  cases e : valOf c.balance t with
  | none => simp
  | some v =>
    have := h.nz _ ((valOf_mem h.nd).mp e)
    simpa using this
theorem counts_ok {c : Centre} (h : COk c) (t : Nat) (d : Int) (hf : c.balance.length < MOST ∨ c.of t ≠ 0) :
    ((c.counts t d).map (·.1)).Nodup ∧ (∀ p ∈ c.counts t d, p.2 ≠ 0) ∧ (c.counts t d).length ≤ 256 := by
  have hd := dropL_keys (t := t) h.nd
  have hn := @dropL_not c.balance t
  have hl : (dropL c.balance t).length ≤ c.balance.length := List.length_filter_le _ _
  have hnz : ∀ p ∈ dropL c.balance t, p.2 ≠ 0 := fun p m => h.nz p (List.mem_filter.mp m).1
  have hl2 : (dropL c.balance t).length + 1 ≤ 256 := by
    rcases hf with hf | hf
    · have : c.balance.length < 256 := hf
      omega
    · have z := (of_ne h t).mp hf
      obtain ⟨v, e⟩ := Option.isSome_iff_exists.mp z
      have := dropL_length e
      have := h.few
      omega
  show ((dropL c.balance t ++ if c.of t + d = 0 then [] else [(t, c.of t + d)]).map (·.1)).Nodup ∧ (∀ p ∈ dropL c.balance t ++ (if c.of t + d = 0 then [] else [(t, c.of t + d)]), p.2 ≠ 0) ∧ (dropL c.balance t ++ if c.of t + d = 0 then [] else [(t, c.of t + d)]).length ≤ 256
  split
  · rw [List.append_nil]
    exact ⟨hd, hnz, by omega⟩
  · rename_i hv
    refine ⟨snoc_keys hd hn, ?_, by rw [List.length_append]; exact hl2⟩
    intro p m
    rcases List.mem_append.mp m with m | m
    · exact hnz p m
    · have e : p = (t, c.of t + d) := by simpa using m
      rw [e]
      exact hv
theorem pass_ok {c : Centre} (h : COk c) (m : Msg) : COk (c.pass m) := by
  unfold Centre.pass
  split
  · rename_i hc
    obtain ⟨h1, h2, h3⟩ := counts_ok h m.tag (if m.in_ = 1 then 1 else -1) hc.2
    exact ⟨by simp [h.len], by simp [h.lo], by simp [h.hi], h1, h2, h3⟩
  · exact h
theorem centre0_ok {n : Nat} (h1 : 1 ≤ n) (h2 : n ≤ 8) : COk (centre0 n) :=
  ⟨by simp [centre0], by simpa [centre0] using h1, by simpa [centre0] using h2, by simp [centre0], by simp [centre0], by simp [centre0]⟩
theorem does_ok {c : Centre} (h : COk c) (x : Call) : COk (c.does x).1 := by
  cases x with
  | cStart n =>
    unfold Centre.does
    dsimp only
    split
    · exact h
    · exact centre0_ok (by omega) (by omega)
  | lock =>
    unfold Centre.does
    dsimp only
    split
    · exact h
    · exact ⟨by simp, h.lo, h.hi, h.nd, h.nz, h.few⟩
  | free =>
    unfold Centre.does
    dsimp only
    split
    · exact ⟨h.len, h.lo, h.hi, h.nd, h.nz, h.few⟩
    · exact h
  | fire =>
    unfold Centre.does
    dsimp only
    split <;> exact h
  | cHeard l n =>
    unfold Centre.does
    dsimp only
    split
    · exact h
    · split
      · exact h
      · dsimp only
        split
        · exact pass_ok h _
        · split
          · exact ⟨by simp [h.len], h.lo, h.hi, h.nd, h.nz, h.few⟩
          · exact h
  | cTick => exact ⟨h.len, h.lo, h.hi, h.nd, h.nz, h.few⟩
  | cState => exact h
  | gStart _ => exact h
  | pass _ _ => exact h
  | gHeard _ _ => exact h
  | gTick => exact h
  | gState => exact h
/-! ### how many are within; whether it's clear -/
def many (c : Centre) : Nat := (c.balance.filter fun x => decide (0 < x.2)).length
theorem many_perm {L M : List (Nat × Int)} (h : L.Perm M) : (L.filter fun x => decide (0 < x.2)).length = (M.filter fun x => decide (0 < x.2)).length := (h.filter _).length_eq
theorem many_keys {L : List (Nat × Int)} {ys : List Nat} (h : (L.map (·.1)).Nodup) (hy : ys.Perm (L.map (·.1))) :
    (ys.filter fun t => decide (0 < (valOf L t).getD 0)).length = (L.filter fun x => decide (0 < x.2)).length := by
  rw [(hy.filter _).length_eq, List.filter_map, List.length_map]
  congr 1
  apply List.filter_congr
  intro p m
  show decide (0 < (valOf L p.1).getD 0) = _
  rw [(valOf_mem (v := p.2) h).mpr m]
  rfl
theorem many_zero (c : Centre) : (many c = 0) ↔ (c.balance.all fun x => decide (x.2 ≤ 0)) = true := by
  unfold many
  rw [List.length_eq_zero_iff, List.filter_eq_nil_iff, List.all_eq_true]
  constructor
  · intro h p m
    have := h p m
    simp at this ⊢
    omega
  · intro h p m
    have := h p m
    simp at this ⊢
    omega
def reach (c : Centre) (i : Nat) : Prop := ∃ n, c.confirmed[i]? = some (some n) ∧ ∃ k, c.had[i]? = some k ∧ n ≤ k
theorem clear_iff {c : Centre} (h : COk c) : c.clear = true ↔ c.on = true ∧ (∀ i, i < c.had.length → reach c i) ∧ many c = 0 := by
  unfold Centre.clear
  rw [Bool.and_eq_true, Bool.and_eq_true, ← many_zero, List.all_eq_true]
  constructor
  · rintro ⟨⟨h1, h2⟩, h3⟩
    refine ⟨h1, fun i hi => ?_, h3⟩
    have z := h2 i (List.mem_range.mpr hi)
    rw [List.getD_eq_getElem?_getD] at z
    have hc : i < c.confirmed.length := by rw [h.len]; exact hi
    rw [List.getElem?_eq_getElem hc, Option.getD_some] at z
    cases e : c.confirmed[i] with
    | none => rw [e] at z; cases z
    | some n =>
      rw [e] at z
      refine ⟨n, by rw [List.getElem?_eq_getElem hc, e], c.had[i], List.getElem?_eq_getElem hi, ?_⟩
      have z := of_decide_eq_true z
      rw [List.getD_eq_getElem?_getD, List.getElem?_eq_getElem hi] at z
      exact z
  · rintro ⟨h1, h2, h3⟩
    refine ⟨⟨h1, fun i hi => ?_⟩, h3⟩
    obtain ⟨n, e1, k, e2, hle⟩ := h2 i (List.mem_range.mp hi)
    rw [List.getD_eq_getElem?_getD, e1, Option.getD_some, List.getD_eq_getElem?_getD, e2]
    exact decide_eq_true hle
theorem not_clear {c : Centre} (h : COk c) (z : ¬ (c.on = true ∧ (∀ i, i < c.had.length → reach c i) ∧ many c = 0)) : c.clear = false := by
  cases e : c.clear with
  | false => rfl
  | true => exact absurd ((clear_iff h).mp e) z
end Cy

namespace Cy
open PySem PySem.Spec PyProof.Rows L2
/-! ### the text -/
def top (i : Nat) : Stmt := PySem.Challenge.pw_clearyard_s01_answers.main.body.getD i (.Pass ⟨0, 0, 0, 0⟩)
abbrev sBytes : Stmt := top 13
abbrev sNumIn : Stmt := top 14
abbrev sHalved : Stmt := top 15
abbrev sCheck : Stmt := top 16
abbrev sWritten : Stmt := top 17
/-! ### lists of numbers as values -/
def iv (l : List Nat) : List V := l.map fun (n : Nat) => V.int (n : Int)
theorem iv_nil : iv [] = [] := rfl
theorem iv_app (a b : List Nat) : iv (a ++ b) = iv a ++ iv b := List.map_append
theorem iv_len (a : List Nat) : (iv a).length = a.length := List.length_map _
theorem iv_get {l : List Nat} {i : Nat} {y : V} (h : (iv l)[i]? = some y) : ∃ n, l[i]? = some n ∧ y = .int (n : Int) := by
  unfold iv at h
  rw [List.getElem?_map] at h
  cases e : l[i]? with
  | none =>
    rw [e] at h
    cases h
  | some z =>
    rw [e] at h
    exact ⟨z, rfl, (Option.some.inj h).symm⟩
theorem same_new {H H' : Hp} {l : Addr} {o : HO} (s : Same H H') (n : H l = none) : Same H (upd H' l o) := fun b u e => by
  rw [upd_ne (ne_of_none e n)]
  exact s b u e
def IntIs (mg : Str → Option Value) (x : Str) (n : Int) : Prop := ∃ t, mg x = some (.int n t)
theorem pe_gi {X : Cx} {x : Str} {n : Int} {pos : Pos} (hg : Gl X x) (h : IntIs X.mg x n) (hd : (x == ("__debug__" : Str)) = false := by decide) : PE X (.Name x pos) (tC (.int n)) := by
  obtain ⟨t, e⟩ := h
  exact pe_glob hg e ⟨_, rfl⟩ hd
/-- the built-ins' names, the top's numbers -/
structure Txt (K : PySem.W.Frag) (mg : Str → Option Value) : Prop where
  range : mg "range" = none
  len : mg "len" = none
  reversed : mg "reversed" = none
  zip : mg "zip" = none
  sorted : mg "sorted" = none
  int : mg "int" = none
  gONES : IntIs mg "ONES" (4294967295)
  gMIXING : IntIs mg "MIXING" (2197175160)
  gPASS : IntIs mg "PASS" (1)
  gHAD : IntIs mg "HAD" (2)
  gLOCK : IntIs mg "LOCK" (4)
  gLOCKED : IntIs mg "LOCKED" (5)
  gFREE : IntIs mg "FREE" (6)
  gMOST_GATE : IntIs mg "MOST_GATE" (7)
  gSIZE : IntIs mg "SIZE" (16)
  gCHECKED : IntIs mg "CHECKED" (12)
  gNOT_RIGHT_centres : IntIs mg "NOT_RIGHT_centres" (-71)
  gNOT_NOW : IntIs mg "NOT_NOW" (-11)
  gMOST_TAGS : IntIs mg "MOST_TAGS" (256)
  gEVERY_centres : IntIs mg "EVERY_centres" (10)
  gSENDS_centres : IntIs mg "SENDS_centres" (0)
  gTELLS : IntIs mg "TELLS" (1)
  gCLEAR : IntIs mg "CLEAR" (1)
  gFIRE : IntIs mg "FIRE" (2)
  gNOT_RIGHT_gates : IntIs mg "NOT_RIGHT_gates" (-71)
  gOUT_OF_RANGE_gates : IntIs mg "OUT_OF_RANGE_gates" (-22)
  gLOCKED_IN : IntIs mg "LOCKED_IN" (-13)
  gFULL : IntIs mg "FULL" (-28)
  gMOST_KEPT : IntIs mg "MOST_KEPT" (64)
  gEVERY_gates : IntIs mg "EVERY_gates" (10)
  gSENDS_gates : IntIs mg "SENDS_gates" (2)
  gLOCKS : IntIs mg "LOCKS" (3)
  gOUT_OF_RANGE_desk : IntIs mg "OUT_OF_RANGE_desk" (-22)
  gMOST_GATES : IntIs mg "MOST_GATES" (8)
  gLAST_GATE : IntIs mg "LAST_GATE" (7)
  gGATE_OBJECTS : IntIs mg "GATE_OBJECTS" (4)
  gFIRST_OF_GATE : IntIs mg "FIRST_OF_GATE" (7)
/-- a def that stands at its name and keeps its promise -/
structure Def (P : Program) (w : World) (K : PySem.W.Frag) (mg : Str → Option Value) (base : Heap) (x : Str) (k : Nat) (ps : List Str) (sp : Sp) : Prop where
  ex : ∃ (f : Addr) (fd : FuncData), mg x = some (.ref f) ∧ PySem.W.keepIn K (.ref f) = true ∧ Binds K fd ps [] ∧ FnOk P w K mg base CX0 k f fd ps sp
structure Mth (P : Program) (w : World) (K : PySem.W.Frag) (mg : Str → Option Value) (base : Heap) (C : Addr) (x : Str) (k : Nat) (ps : List Str) (sp : Sp) : Prop where
  ex : ∃ (f : Addr) (fd : FuncData), Meth K C x f ∧ Binds K fd ps [] ∧ FnOk P w K mg base CX0 k f fd ps sp
section
variable {P : Program} {w : World} {K : PySem.W.Frag} {mg : Str → Option Value} {base : Heap}
/-! ### bytes_of -/
def spBytes : Sp := fun vs H Q _ => ∃ n : Nat, vs = [.int (n : Int)] ∧ ∀ (H' : Hp) (p : Addr), Same H H' → H p = none → H' p = some (.lst (iv (Km259.le 4 n))) → Q (.ref p) H'
theorem scBytes : FnScope ["number", "found", "left", "turn"] ["number"] (defScope sBytes) := ⟨rfl, rfl, rfl, by decide +kernel, rfl, by decide +kernel, by decide +kernel⟩
theorem ok_bytes {f : Addr} {fd : FuncData} (F : Fun K "bytes_of" "bytes_of" sBytes f fd) (T : Txt K mg) : FnOk P w K mg base CX0 1 f fd ["number"] spBytes := by
  refine F.ok scBytes (fun vs H Q E h => ?_) (fun cdv A outer s H vs Q E hr h => ?_)
  · obtain ⟨n, rfl, _⟩ := h
    rfl
  · obtain ⟨n, rfl, k⟩ := h
    refine ⟨_, pss_cons (ps_set (i := 1) scBytes.nd rfl (.inl rfl) (pe_lst pa_nil))
      (pss_cons (ps_set (i := 2) scBytes.nd rfl (.inl rfl) (pv 0))
      (pss_cons (ps_for PassesOwn.never rfl (pi_range1 rfl T.range (pa_cons pe_int pa_nil)) (pg_name (i := 3) scBytes.nd rfl (.inl rfl))
         (pss_cons (ps_expr (pe_bm PySem.F.plainAttrs_list PySem.F.slot_list_append PySem.F.type_list_append mt_append (pv 1) (pa_cons (pe_op op_mod (pv 2) pe_int) pa_nil)))
         (pss_one (ps_set (i := 2) scBytes.nd rfl (.inl rfl) (pe_op op_fdiv (pv 2) pe_int)))))
      (pss_one (ps_ret (pv 1))))), ?_⟩
    refine ⟨Nat.zero_le _, fun l hl => ?_⟩
    refine ⟨_, rfl, ?_⟩
    refine ⟨4, rfl, by decide, by decide, for_range (n := 4) (fun i σ H' => ∃ v, σ = [some (.int (n : Int)), some (.ref l), some (.int ((n / 256 ^ i : Nat) : Int)), v] ∧ Same H H' ∧ H' l = some (.lst (iv (Km259.le i n)))) ?_ ?_ ?_⟩
    · exact ⟨none, by rw [Nat.pow_zero, Nat.div_one]; rfl, same_new (Same.refl H) hl, upd_same⟩
    · rintro i σ H' hi ⟨v, rfl, s1, hL⟩
      refine ⟨_, rfl, .inl ⟨rfl, _, SqL.of hL⟩, _, rfl, _, _, rfl, rfl, (by show (0 : Int) < 256; decide), l, _, _, rfl, rfl, hL, ?_, ?_⟩
      · rw [iv_len, le_length]
        exact Nat.lt_of_lt_of_le hi (by decide)
      · refine ⟨_, rfl, _, _, rfl, rfl, ⟨by decide, by decide⟩, ?_⟩
        refine ⟨some (.int (0 + (i : Int))), ?_, same_new s1 hl, ?_⟩
        · have e : ((n / 256 ^ i : Nat) : Int) / 256 = ((n / 256 ^ (i + 1) : Nat) : Int) := by
            rw [Nat.pow_succ, ← Nat.div_div_eq_div_mul]
            exact (Int.natCast_ediv _ 256).symm
          show [some (V.int (n : Int)), some (V.ref l), some (V.int (((n / 256 ^ i : Nat) : Int) / 256)), some (V.int (0 + (i : Int)))] = _
          rw [e]
        · rw [upd_same, le_snoc, iv_app]
          rfl
    · rintro σ H' ⟨v, rfl, s1, hL⟩
      exact ⟨_, rfl, k _ l s1 hl hL⟩
/-! ### number_in -/
def spNumIn (K : PySem.W.Frag) : Sp := fun vs H Q _ => ∃ (a : Addr) (l : List Nat), vs = [.ref a] ∧ SqL K H a (iv l) ∧ Q (.int (numOf l : Int)) H
theorem scNumIn : FnScope ["row", "number", "byte"] ["row"] (defScope sNumIn) := ⟨rfl, rfl, rfl, by decide +kernel, rfl, by decide +kernel, by decide +kernel⟩
theorem numOf_step {l : List Nat} {i n : Nat} (hi : i < l.length) (h : l[l.length - 1 - i]? = some n) : numOf (l.drop (l.length - (i + 1))) = 256 * numOf (l.drop (l.length - i)) + n := by
  have e : l.length - (i + 1) = l.length - 1 - i := by omega
  have hlt : l.length - 1 - i < l.length := by omega
  rw [e, List.drop_eq_getElem_cons hlt, numOf_cons]
  have e2 : l.length - 1 - i + 1 = l.length - i := by omega
  rw [e2]
  have e3 : l[l.length - 1 - i] = n := by
    rw [List.getElem?_eq_getElem hlt] at h
    exact Option.some.inj h
  rw [e3]
  omega
theorem ok_numIn {f : Addr} {fd : FuncData} (F : Fun K "number_in" "number_in" sNumIn f fd) (T : Txt K mg) : FnOk P w K mg base CX0 1 f fd ["row"] (spNumIn K) := by
  refine F.ok scNumIn (fun vs H Q E h => ?_) (fun cdv A outer s H vs Q E hr h => ?_)
  · obtain ⟨a, l, rfl, _⟩ := h
    rfl
  · obtain ⟨a, l, rfl, hS, k⟩ := h
    refine ⟨_, pss_cons (ps_set (i := 1) scNumIn.nd rfl (.inl rfl) pe_int)
      (pss_cons (ps_for PassesOwn.never rfl (pi_reversed rfl T.reversed (pa_cons (pv 0) pa_nil)) (pg_name (i := 2) scNumIn.nd rfl (.inl rfl))
         (pss_one (ps_set (i := 1) scNumIn.nd rfl (.inl rfl) (pe_op op_add (pe_op op_mul pe_int (pv 1)) (pv 2)))))
      (pss_one (ps_ret (pv 1)))), ?_⟩
    refine ⟨_, rfl, a, _, rfl, hS, RT.for_Itv (K := K) (a := a) (xs := iv l) (fun i σ H' => ∃ v, σ = [some (.ref a), some (.int (numOf (l.drop (l.length - i)) : Int)), v] ∧ H' = H) ?_ ?_ ?_ ?_⟩
    · refine ⟨none, ?_, rfl⟩
      rw [Nat.sub_zero, List.drop_length]
      rfl
    · rintro i σ H' ⟨v, rfl, rfl⟩
      exact hS
    · rintro i x σ H' hi hx ⟨v, rfl, rfl⟩
      rw [iv_len] at hi hx
      obtain ⟨n, hn, rfl⟩ := iv_get hx
      refine ⟨_, rfl, _, _, rfl, rfl, .inl ⟨by decide, by decide⟩, _, rfl, _, _, rfl, rfl, ?_⟩
      refine ⟨some (.int (n : Int)), ?_, rfl⟩
      rw [numOf_step hi hn]
      rfl
    · rintro σ H' ⟨v, rfl, rfl⟩
      refine ⟨_, rfl, ?_⟩
      rw [iv_len, Nat.sub_self, List.drop_zero]
      exact k
/-! ### halved, check_of -/
def spHalved : Sp := fun vs H Q _ => ∃ n : Nat, vs = [.int (n : Int)] ∧ Q (.int (Km259.crcBit n : Int)) H
theorem scHalved : FnScope ["number"] ["number"] (defScope sHalved) := ⟨rfl, rfl, rfl, by decide +kernel, rfl, by decide +kernel, by decide +kernel⟩
theorem xor_nat (a b : Nat) : Builtin.bitXor (a : Int) (b : Int) = ((a ^^^ b : Nat) : Int) := by
  rw [Bits.bitXor_pp (Int.natCast_nonneg a) (Int.natCast_nonneg b)]
  rfl
theorem ok_halved {f : Addr} {fd : FuncData} (F : Fun K "halved" "halved" sHalved f fd) (T : Txt K mg) : FnOk P w K mg base CX0 1 f fd ["number"] spHalved := by
  refine F.ok scHalved (fun vs H Q E h => ?_) (fun cdv A outer s H vs Q E hr h => ?_)
  · obtain ⟨n, rfl, _⟩ := h
    rfl
  · obtain ⟨n, rfl, k⟩ := h
    refine ⟨_, pss_cons (ps_if (pt_cmpR op_eq (pe_op op_mod (pv 0) pe_int) pe_int (nomark _)) (pss_one (ps_ret (pe_op op_xor (pe_op op_fdiv (pv 0) pe_int) (pe_gi rfl T.gMIXING)))) pss_nil)
      (pss_one (ps_ret (pe_op op_fdiv (pv 0) pe_int))), ?_⟩
    have ed : ((n : Int) / 2) = ((n / 2 : Nat) : Int) := rfl
    refine ⟨_, rfl, _, _, rfl, rfl, (by show (0 : Int) < 2; decide), rfl, _, rfl, ?_⟩
    refine ite2 (fun c => ?_) (fun c => ?_)
    · have c1 : n % 2 = 1 := by
        have z := of_decide_eq_true c
        have z2 : ((n : Int) % 2) = 1 := V.int.inj z
        omega
      refine ⟨_, rfl, _, _, rfl, rfl, ⟨by decide, by decide⟩, _, _, rfl, rfl, ?_⟩
      have e : Builtin.bitXor ((n : Int) / 2) 2197175160 = ((Km259.crcBit n : Nat) : Int) := by
        refine (xor_nat (n / 2) 2197175160).trans ?_
        unfold Km259.crcBit
        rw [if_pos c1]
      show Q (.int (Builtin.bitXor ((n : Int) / 2) 2197175160)) H
      rw [e]
      exact k
    · have c1 : ¬ n % 2 = 1 := fun z => c (decide_eq_true (by
        show V.int ((n : Int) % 2) = V.int 1
        congr 1
        omega))
      refine ⟨_, rfl, _, _, rfl, rfl, ⟨by decide, by decide⟩, ?_⟩
      have e : ((n : Int) / 2) = ((Km259.crcBit n : Nat) : Int) := by
        unfold Km259.crcBit
        rw [if_neg c1]
        rfl
      show Q (.int ((n : Int) / 2)) H
      rw [e]
      exact k
def spCheck (K : PySem.W.Frag) : Sp := fun vs H Q _ => ∃ (a : Addr) (l : List Nat), vs = [.ref a] ∧ SqL K H a (iv l) ∧ Q (.int (Km259.crc l : Int)) H
theorem scCheck : FnScope ["row", "number", "byte", "turn"] ["row"] (defScope sCheck) := ⟨rfl, rfl, rfl, by decide +kernel, rfl, by decide +kernel, by decide +kernel⟩
theorem take_more {α : Type} : ∀ {l : List α} {i : Nat} {x : α}, l[i]? = some x → l.take (i + 1) = l.take i ++ [x]
  | [], i, x, h => by simp at h
  | a :: l, 0, x, h => by
    have e : a = x := Option.some.inj h
    subst e
    rfl
  | a :: l, i + 1, x, h => by
    have ih := take_more (l := l) (i := i) (x := x) h
    show a :: l.take (i + 1) = a :: l.take i ++ [x]
    rw [ih]
    rfl
theorem ok_check {f : Addr} {fd : FuncData} (F : Fun K "check_of" "check_of" sCheck f fd) (T : Txt K mg) (dH : Def P w K mg base "halved" 1 ["number"] spHalved) : FnOk P w K mg base CX0 2 f fd ["row"] (spCheck K) := by
  obtain ⟨fH, fdH, mH, kH, bH, GH⟩ := dH.ex
  refine F.ok scCheck (fun vs H Q E h => ?_) (fun cdv A outer s H vs Q E hr h => ?_)
  · obtain ⟨a, l, rfl, _⟩ := h
    rfl
  · obtain ⟨a, l, rfl, hS, k⟩ := h
    refine ⟨_, pss_cons (ps_set (i := 1) scCheck.nd rfl (.inl rfl) (pe_gi rfl T.gONES))
      (pss_cons (ps_for PassesOwn.never rfl (pi_list (pv 0)) (pg_name (i := 2) scCheck.nd rfl (.inl rfl))
         (pss_cons (ps_set (i := 1) scCheck.nd rfl (.inl rfl) (pe_op op_xor (pv 1) (pv 2)))
         (pss_one (ps_for PassesOwn.never rfl (pi_range1 rfl T.range (pa_cons pe_int pa_nil)) (pg_name (i := 3) scCheck.nd rfl (.inl rfl))
           (pss_one (ps_set (i := 1) scCheck.nd rfl (.inl rfl) (pe_call GH hr rfl mH kH bH .nil pass0 (pa_cons (pv 1) pa_nil))))))))
      (pss_one (ps_ret (pe_op op_xor (pv 1) (pe_gi rfl T.gONES))))), ?_⟩
    refine ⟨_, rfl, a, rfl, ⟨_, hS⟩, for_list (K := K) (a := a) (xs := iv l) (fun i σ H' => ∃ v t, σ = [some (.ref a), some (.int ((l.take i).foldl Km259.crcByte 0xFFFFFFFF : Nat)), v, t] ∧ H' = H) ⟨none, none, rfl, rfl⟩ ?_ ?_ ?_⟩
    · rintro i σ H' _ ⟨v, t, rfl, rfl⟩
      exact hS
    · rintro i x σ H' hx ⟨v, t, rfl, rfl⟩
      obtain ⟨n, hn, rfl⟩ := iv_get hx
      refine ⟨_, rfl, _, rfl, _, _, rfl, rfl, ?_⟩
      refine ⟨8, rfl, by decide, by decide, for_range (n := 8) (fun j σ H2 => ∃ t, σ = [some (.ref a), some (.int ((List.range j).foldl (fun x _ => Km259.crcBit x) ((l.take i).foldl Km259.crcByte 0xFFFFFFFF ^^^ n) : Nat)), some (.int (n : Int)), t] ∧ H2 = H') ?_ ?_ ?_⟩
      · refine ⟨t, ?_, rfl⟩
        show [some (V.ref a), some (V.int (Builtin.bitXor ((l.take i).foldl Km259.crcByte 0xFFFFFFFF : Nat) (n : Int))), some (V.int (n : Int)), t] = _
        rw [xor_nat]
        rfl
      · rintro j σ H2 hj ⟨t, rfl, rfl⟩
        refine ⟨_, rfl, _, rfl, ?_⟩
        refine ⟨some (.int (0 + (j : Int))), ?_, rfl⟩
        rw [List.range_succ, List.foldl_append]
        rfl
      · rintro σ H2 ⟨t, rfl, rfl⟩
        refine ⟨some (.int (n : Int)), t, ?_, rfl⟩
        rw [take_more hn, List.foldl_append]
        rfl
    · rintro σ H' ⟨v, t, rfl, rfl⟩
      refine ⟨_, rfl, _, _, rfl, rfl, ?_⟩
      rw [iv_len, List.take_length]
      have e : Builtin.bitXor ((l.foldl Km259.crcByte 0xFFFFFFFF : Nat) : Int) 4294967295 = ((Km259.crc l : Nat) : Int) := xor_nat _ 4294967295
      show Q (.int (Builtin.bitXor ((l.foldl Km259.crcByte 0xFFFFFFFF : Nat) : Int) 4294967295)) H'
      rw [e]
      exact k
/-! ### written -/
def spWritten : Sp := fun vs H Q _ => ∃ k g i n t : Nat, vs = [.int (k : Int), .int (g : Int), .int (i : Int), .int (n : Int), .int (t : Int)] ∧
  ∀ (H' : Hp) (p : Addr), Same H H' → H p = none → H' p = some (.lst (iv (Km259.Msg.bytes ⟨k, g, i, n, t⟩))) → Q (.ref p) H'
theorem scWritten : FnScope ["kind", "gate", "going", "number", "tag", "row"] ["kind", "gate", "going", "number", "tag"] (defScope sWritten) := ⟨rfl, rfl, rfl, by decide +kernel, rfl, by decide +kernel, by decide +kernel⟩
theorem sz {n m : Nat} (h : n ≤ m) (hm : m ≤ 16777216) : n ≤ sizeLine := by
  rw [sizeLine_eq]
  omega
theorem ok_written {f : Addr} {fd : FuncData} (F : Fun K "written" "written" sWritten f fd) (T : Txt K mg) (dB : Def P w K mg base "bytes_of" 1 ["number"] spBytes) (dC : Def P w K mg base "check_of" 2 ["row"] (spCheck K)) :
    FnOk P w K mg base CX0 3 f fd ["kind", "gate", "going", "number", "tag"] spWritten := by
  obtain ⟨fB, fdB, mB, kB, bB, GB⟩ := dB.ex
  obtain ⟨fC, fdC, mC, kC, bC, GC⟩ := dC.ex
  refine F.ok scWritten (fun vs H Q E h => ?_) (fun cdv A outer s H vs Q E hr h => ?_)
  · obtain ⟨k, g, i, n, t, rfl, _⟩ := h
    rfl
  · obtain ⟨k, g, i, n, t, rfl, q⟩ := h
    have hr1 : Room 1 _ := hr.mono (by decide)
    refine ⟨_, pss_cons (ps_set (i := 5) scWritten.nd rfl (.inl rfl) (pe_op op_cat (pe_op op_cat (pe_lst (pa_cons (pv 0) (pa_cons (pv 1) (pa_cons (pv 2) (pa_cons pe_int pa_nil)))))
        (pe_call GB hr1 rfl mB kB bB .nil pass0 (pa_cons (pv 3) pa_nil))) (pe_call GB hr1 rfl mB kB bB .nil pass0 (pa_cons (pv 4) pa_nil))))
      (pss_one (ps_ret (pe_op op_cat (pv 5) (pe_call GB hr1 rfl mB kB bB .nil pass0 (pa_cons (pe_call GC hr rfl mC kC bC .nil pass0 (pa_cons (pv 5) pa_nil)) pa_nil))))), ?_⟩
    refine ⟨_, rfl, _, rfl, _, rfl, (by show 4 ≤ sizeLine; decide), fun l hl => ?_⟩
    have s0 : Same H (upd H l (.lst [.int k, .int g, .int i, .int 0])) := same_new (Same.refl H) hl
    refine ⟨_, rfl, n, rfl, fun H1 p1 s1 n1 e1 => ?_⟩
    have f1 : H1 l = some (.lst (iv [k, g, i, 0])) := s1 l _ upd_same
    refine ⟨l, p1, _, _, rfl, rfl, f1, e1, (by rw [iv_len, iv_len, le_length]; exact sz (m := 8) (by simp) (by decide)), fun c1 hc1 => ?_⟩
    have s2 : Same H (upd H1 c1 (.lst (iv [k, g, i, 0] ++ iv (Km259.le 4 n)))) := same_new (s0.trans s1) ((s0.trans s1).free hc1)
    refine ⟨_, rfl, t, rfl, fun H2 p2 s3 n2 e2 => ?_⟩
    have f2 : H2 c1 = some (.lst (iv ([k, g, i, 0] ++ Km259.le 4 n))) := by
      rw [s3 c1 _ upd_same, iv_app]
    refine ⟨c1, p2, _, _, rfl, rfl, f2, e2, (by rw [iv_len, iv_len, List.length_append, le_length, le_length]; exact sz (m := 12) (by simp) (by decide)), fun c2 hc2 => ?_⟩
    have s4 : Same H H2 := s2.trans s3
    have s5 : Same H (upd H2 c2 (.lst (iv ([k, g, i, 0] ++ Km259.le 4 n) ++ iv (Km259.le 4 t)))) := same_new s4 (s4.free hc2)
    have f3 : (upd H2 c2 (.lst (iv ([k, g, i, 0] ++ Km259.le 4 n) ++ iv (Km259.le 4 t)))) c2 = some (.lst (iv (Km259.Msg.half ⟨k, g, i, n, t⟩))) := by
      rw [upd_same, ← iv_app]
      rfl
    have hlen : (Km259.Msg.half ⟨k, g, i, n, t⟩).length = 12 := by
      unfold Km259.Msg.half
      rw [List.length_append, List.length_append, le_length, le_length]
      rfl
    refine ⟨_, rfl, _, rfl, c2, Km259.Msg.half ⟨k, g, i, n, t⟩, rfl, SqL.of f3, Km259.crc (Km259.Msg.half ⟨k, g, i, n, t⟩), rfl, fun H3 p3 s6 n3 e3 => ?_⟩
    refine ⟨c2, p3, _, _, rfl, rfl, s6 c2 _ f3, e3, (by rw [iv_len, iv_len, hlen, le_length]; exact sz (m := 16) (by decide) (by decide)), fun r hr3 => ?_⟩
    refine q _ r (same_new (s5.trans s6) ((s5.trans s6).free hr3)) ((s5.trans s6).free hr3) ?_
    rw [upd_same, ← iv_app]
    rfl
end
end Cy

namespace Cy
open PySem PySem.Spec PyProof.Rows L2
/-! ### fields -/
theorem lk_here {k : Str} {v : V} {r : List (Str × V)} : List.lookup k ((k, v) :: r) = some v := by
  have e : (k == k) = true := beq_self_eq_true k
  simp only [List.lookup, e]
theorem lk_past {k g : Str} {v : V} {r : List (Str × V)} (h : (k == g) = false) : List.lookup k ((g, v) :: r) = List.lookup k r := by
  simp only [List.lookup, h]
theorem put_here {f : Str} {v x : V} {r : List (Str × V)} : putF f v ((f, x) :: r) = (f, v) :: r := if_pos rfl
theorem put_past {f g : Str} {v x : V} {r : List (Str × V)} (h : ¬ g = f) : putF f v ((g, x) :: r) = (g, x) :: putF f v r := if_neg h
theorem put_new {f : Str} {v : V} : ∀ {fs : List (Str × V)}, f ∉ fs.map (·.1) → putF f v fs = fs ++ [(f, v)]
  | [], _ => rfl
  | (g, x) :: r, h => by
    rw [List.map_cons, List.mem_cons, not_or] at h
    rw [put_past (fun e => h.1 e.symm), put_new h.2]
    rfl
theorem pl {f : Str} {v : V} {fs : List (Str × V)} {n : Nat} (h : fs.length ≤ n) : (putF f v fs).length ≤ n + 1 := Nat.le_trans (length_putF f v fs) (Nat.succ_le_succ h)
theorem fw {n m : Nat} (h : n ≤ m) (hm : m < 1000 := by decide) : n < 1000 := Nat.lt_of_le_of_lt h hm
def mFs (v1 v2 v3 v4 v5 v6 : V) : List (Str × V) := [("kind", v1), ("gate", v2), ("going", v3), ("nought", v4), ("number", v5), ("tag", v6)]
theorem mFs_kind (v1 v2 v3 v4 v5 v6 : V) : (mFs v1 v2 v3 v4 v5 v6).lookup ("kind" : Str) = some v1 := lk_here
theorem mFs_gate (v1 v2 v3 v4 v5 v6 : V) : (mFs v1 v2 v3 v4 v5 v6).lookup ("gate" : Str) = some v2 := (lk_past (by decide +kernel)).trans lk_here
theorem mFs_going (v1 v2 v3 v4 v5 v6 : V) : (mFs v1 v2 v3 v4 v5 v6).lookup ("going" : Str) = some v3 := (lk_past (by decide +kernel)).trans ((lk_past (by decide +kernel)).trans lk_here)
theorem mFs_nought (v1 v2 v3 v4 v5 v6 : V) : (mFs v1 v2 v3 v4 v5 v6).lookup ("nought" : Str) = some v4 := (lk_past (by decide +kernel)).trans ((lk_past (by decide +kernel)).trans ((lk_past (by decide +kernel)).trans lk_here))
theorem mFs_number (v1 v2 v3 v4 v5 v6 : V) : (mFs v1 v2 v3 v4 v5 v6).lookup ("number" : Str) = some v5 := (lk_past (by decide +kernel)).trans ((lk_past (by decide +kernel)).trans ((lk_past (by decide +kernel)).trans ((lk_past (by decide +kernel)).trans lk_here)))
theorem mFs_tag (v1 v2 v3 v4 v5 v6 : V) : (mFs v1 v2 v3 v4 v5 v6).lookup ("tag" : Str) = some v6 := (lk_past (by decide +kernel)).trans ((lk_past (by decide +kernel)).trans ((lk_past (by decide +kernel)).trans ((lk_past (by decide +kernel)).trans ((lk_past (by decide +kernel)).trans lk_here))))
theorem mFs_no_numbers_fit (v1 v2 v3 v4 v5 v6 : V) : (mFs v1 v2 v3 v4 v5 v6).lookup ("numbers_fit" : Str) = none := (lk_past (by decide +kernel)).trans ((lk_past (by decide +kernel)).trans ((lk_past (by decide +kernel)).trans ((lk_past (by decide +kernel)).trans ((lk_past (by decide +kernel)).trans ((lk_past (by decide +kernel)).trans rfl)))))
theorem mFs_no_fits (v1 v2 v3 v4 v5 v6 : V) : (mFs v1 v2 v3 v4 v5 v6).lookup ("fits" : Str) = none := (lk_past (by decide +kernel)).trans ((lk_past (by decide +kernel)).trans ((lk_past (by decide +kernel)).trans ((lk_past (by decide +kernel)).trans ((lk_past (by decide +kernel)).trans ((lk_past (by decide +kernel)).trans rfl)))))
theorem mFs_put_kind (v1 v2 v3 v4 v5 v6 x : V) : putF "kind" x (mFs v1 v2 v3 v4 v5 v6) = mFs x v2 v3 v4 v5 v6 := put_here
theorem mFs_put_gate (v1 v2 v3 v4 v5 v6 x : V) : putF "gate" x (mFs v1 v2 v3 v4 v5 v6) = mFs v1 x v3 v4 v5 v6 := (put_past (by decide +kernel)).trans (congrArg _ put_here)
theorem mFs_put_going (v1 v2 v3 v4 v5 v6 x : V) : putF "going" x (mFs v1 v2 v3 v4 v5 v6) = mFs v1 v2 x v4 v5 v6 := (put_past (by decide +kernel)).trans (congrArg _ ((put_past (by decide +kernel)).trans (congrArg _ put_here)))
theorem mFs_put_nought (v1 v2 v3 v4 v5 v6 x : V) : putF "nought" x (mFs v1 v2 v3 v4 v5 v6) = mFs v1 v2 v3 x v5 v6 := (put_past (by decide +kernel)).trans (congrArg _ ((put_past (by decide +kernel)).trans (congrArg _ ((put_past (by decide +kernel)).trans (congrArg _ put_here)))))
theorem mFs_put_number (v1 v2 v3 v4 v5 v6 x : V) : putF "number" x (mFs v1 v2 v3 v4 v5 v6) = mFs v1 v2 v3 v4 x v6 := (put_past (by decide +kernel)).trans (congrArg _ ((put_past (by decide +kernel)).trans (congrArg _ ((put_past (by decide +kernel)).trans (congrArg _ ((put_past (by decide +kernel)).trans (congrArg _ put_here)))))))
theorem mFs_put_tag (v1 v2 v3 v4 v5 v6 x : V) : putF "tag" x (mFs v1 v2 v3 v4 v5 v6) = mFs v1 v2 v3 v4 v5 x := (put_past (by decide +kernel)).trans (congrArg _ ((put_past (by decide +kernel)).trans (congrArg _ ((put_past (by decide +kernel)).trans (congrArg _ ((put_past (by decide +kernel)).trans (congrArg _ ((put_past (by decide +kernel)).trans (congrArg _ put_here)))))))))
theorem mFs_new (v1 v2 v3 v4 v5 v6 : V) : putF "tag" v6 (putF "number" v5 (putF "nought" v4 (putF "going" v3 (putF "gate" v2 (putF "kind" v1 []))))) = mFs v1 v2 v3 v4 v5 v6 := by
  have e1 : putF "gate" v2 ([("kind", v1)] : List (Str × V)) = ([("kind", v1), ("gate", v2)] : List (Str × V)) := put_new (by show ("gate" : Str) ∉ (["kind"] : List Str); decide +kernel)
  have e2 : putF "going" v3 ([("kind", v1), ("gate", v2)] : List (Str × V)) = ([("kind", v1), ("gate", v2), ("going", v3)] : List (Str × V)) := put_new (by show ("going" : Str) ∉ (["kind", "gate"] : List Str); decide +kernel)
  have e3 : putF "nought" v4 ([("kind", v1), ("gate", v2), ("going", v3)] : List (Str × V)) = ([("kind", v1), ("gate", v2), ("going", v3), ("nought", v4)] : List (Str × V)) := put_new (by show ("nought" : Str) ∉ (["kind", "gate", "going"] : List Str); decide +kernel)
  have e4 : putF "number" v5 ([("kind", v1), ("gate", v2), ("going", v3), ("nought", v4)] : List (Str × V)) = ([("kind", v1), ("gate", v2), ("going", v3), ("nought", v4), ("number", v5)] : List (Str × V)) := put_new (by show ("number" : Str) ∉ (["kind", "gate", "going", "nought"] : List Str); decide +kernel)
  have e5 : putF "tag" v6 ([("kind", v1), ("gate", v2), ("going", v3), ("nought", v4), ("number", v5)] : List (Str × V)) = ([("kind", v1), ("gate", v2), ("going", v3), ("nought", v4), ("number", v5), ("tag", v6)] : List (Str × V)) := put_new (by show ("tag" : Str) ∉ (["kind", "gate", "going", "nought", "number"] : List Str); decide +kernel)
  show putF "tag" v6 (putF "number" v5 (putF "nought" v4 (putF "going" v3 (putF "gate" v2 (([("kind", v1)] : List (Str × V))))))) = _
  rw [e1, e2, e3, e4, e5]
  rfl
/-! ### tests -/
theorem iteI {A B : Prop} {x y : Int} (h1 : x = y → A) (h2 : x ≠ y → B) : if decide (V.int x = V.int y) = true then A else B :=
  ite2 (fun c => h1 (V.int.inj (of_decide_eq_true c))) fun c => h2 fun e => c (decide_eq_true (congrArg V.int e))
theorem iteJ {A B : Prop} {x y : Int} (h1 : x ≠ y → A) (h2 : x = y → B) : if (!decide (V.int x = V.int y)) = true then A else B := by
  by_cases e : x = y
  · rw [decide_eq_true (congrArg V.int e)]
    exact iteF (h2 e)
  · rw [decide_eq_false (fun z => e (V.int.inj z))]
    exact iteT (h1 e)
theorem iteD {A B p : Prop} [Decidable p] (h1 : p → A) (h2 : ¬ p → B) : if decide p = true then A else B :=
  ite2 (fun c => h1 (of_decide_eq_true c)) fun c => h2 fun e => c (decide_eq_true e)
theorem dVn (a b : Nat) : decide (V.int (a : Int) = V.int (b : Int)) = decide (a = b) := by
  by_cases e : a = b
  · subst e
    rw [decide_eq_true rfl, decide_eq_true rfl]
  · rw [decide_eq_false e, decide_eq_false (fun z => e (by have := V.int.inj z; omega))]
theorem dVb (a b : Bool) : decide (V.bl a = V.bl b) = decide (a = b) := by
  cases a <;> cases b <;> rfl
theorem inV_iv (k : Nat) (ks : List Nat) : inV (.int (k : Int)) (iv ks) = decide (k ∈ ks) := by
  unfold inV iv
  induction ks with
  | nil => rfl
  | cons a r ih =>
    rw [List.map_cons, List.any_cons, ih]
    show (((a : Int) == (k : Int)) || decide (k ∈ r)) = decide (k ∈ a :: r)
    by_cases e : k = a
    · subst e
      simp
    · have e2 : ((a : Int) == (k : Int)) = false := beq_eq_false_iff_ne.mpr (by omega)
      rw [e2, Bool.false_or]
      simp [e]
theorem flat_iv (ks : List Nat) : (iv ks).all flatV = true := by
  unfold iv
  rw [List.all_map]
  exact List.all_eq_true.mpr fun _ _ => rfl
/-! ### heaps -/
theorem sq_upd {K : PySem.W.Frag} {H : Hp} {r p C dx : Addr} {xs : List V} {fs : List (Str × V)} {o : HO} (h : SqL K H r xs) (hp : H p = some (.ins C dx fs)) : SqL K (upd H p o) r xs := by
  rcases h with (h | ⟨ob, h⟩) | h
  · have ne : r ≠ p := ne_of h hp (by intro z; cases z)
    exact .inl (.inl ((upd_ne ne).trans h))
  · have ne : r ≠ p := ne_of h hp (by intro z; cases z)
    exact .inl (.inr ⟨ob, (upd_ne ne).trans h⟩)
  · exact .inr h
theorem sq_new {K : PySem.W.Frag} {H : Hp} {r q : Addr} {xs : List V} {o : HO} (h : SqL K H r xs) (hq : H q = none) : SqL K (upd H q o) r xs := (same_new (Same.refl H) hq).seq h
theorem sqT_same {K : PySem.W.Frag} {H H' : Hp} {r : Addr} {xs : List V} (s : Same H H') (h : SqT K H r xs) : SqT K H' r xs := by
  rcases h with (h | ⟨ob, h⟩) | h
  · exact .inl (.inl (s _ _ h))
  · exact .inl (.inr ⟨ob, s _ _ h⟩)
  · exact .inr h
theorem cut_iv (l : List Nat) (lo hi : Option Int) : cutV (iv l) lo hi = iv ((l.drop (HT.sIx l.length 0 lo)).take (HT.sIx l.length l.length hi - HT.sIx l.length 0 lo)) := by
  unfold cutV
  rw [iv_len]
  unfold iv
  rw [List.map_take, List.map_drop]
theorem cut_nn {l : List Nat} {a b : Nat} (h1 : a ≤ b) (h2 : b ≤ l.length) : cutV (iv l) (some (a : Int)) (some (b : Int)) = iv ((l.drop a).take (b - a)) := by
  rw [cut_iv, HT.sIx_nat, HT.sIx_nat, Nat.min_eq_left h2, Nat.min_eq_left (Nat.le_trans h1 h2)]
theorem cut_no {l : List Nat} {a : Nat} (h2 : a ≤ l.length) : cutV (iv l) (some (a : Int)) none = iv (l.drop a) := by
  rw [cut_iv, HT.sIx_nat, HT.sIx_none, Nat.min_eq_left h2]
  rw [← List.length_drop, List.take_length]
theorem cut_on {l : List Nat} {b : Nat} (h2 : b ≤ l.length) : cutV (iv l) none (some (b : Int)) = iv (l.take b) := by
  rw [cut_iv, HT.sIx_nat, HT.sIx_none, Nat.min_eq_left h2]
  rfl
/-! ### a message -/
abbrev sMInit : Stmt := inClass (top 18) 0
abbrev sNums : Stmt := inClass (top 18) 1
abbrev sFits : Stmt := inClass (top 18) 2
abbrev sMsgIn : Stmt := top 19
abbrev mR (m : Km259.Msg) (z : Nat) : List (Str × V) := mFs (.int (m.kind : Int)) (.int (m.gate : Int)) (.int (m.in_ : Int)) (.int (z : Int)) (.int (m.number : Int)) (.int (m.tag : Int))
def MsgZ (C : Addr) (H : Hp) (p : Addr) (m : Km259.Msg) (z : Nat) : Prop := ∃ dx, H p = some (.ins C dx (mR m z))
def MsgAt (C : Addr) (H : Hp) (p : Addr) (m : Km259.Msg) : Prop := ∃ z, MsgZ C H p m z
structure MsgT (K : PySem.W.Frag) (mg : Str → Option Value) (C : Addr) : Prop where
  cl : Cls K C
  g : mg "Message" = some (.ref C)
  kind : NoAttr K C "kind"
  gate : NoAttr K C "gate"
  going : NoAttr K C "going"
  nought : NoAttr K C "nought"
  number : NoAttr K C "number"
  tag : NoAttr K C "tag"
section
variable {P : Program} {w : World} {K : PySem.W.Frag} {mg : Str → Option Value} {base : Heap} {C : Addr}
def spMInit (K : PySem.W.Frag) (C : Addr) : Sp := fun vs H Q _ => ∃ (p r dx : Addr) (l : List Nat), vs = [.ref p, .ref r] ∧ H p = some (.ins C dx []) ∧ SqL K H r (iv l) ∧ l.length = 16 ∧
  ∀ H' : Hp, MsgZ C H' p (parts l) (Km259.at_ l 3 1) → (∀ b o, H b = some o → b ≠ p → H' b = some o) → Q .non H'
theorem scMInit : FnScope ["self", "row"] ["self", "row"] (defScope sMInit) := ⟨rfl, rfl, rfl, by decide +kernel, rfl, by decide +kernel, by decide +kernel⟩
theorem iv_at {l : List Nat} {i : Nat} (h : i < l.length) : atI (iv l) (i : Int) = some (.int (Km259.at_ l i 1 : Int)) := by
  refine atI_nat ?_
  unfold iv
  rw [List.getElem?_map, List.getElem?_eq_getElem h, at_eq, List.drop_eq_getElem_cons h]
  show some (V.int (l[i] : Int)) = some (V.int ((l[i] + 256 * 0 : Nat) : Int))
  rw [Nat.mul_zero, Nat.add_zero]
theorem ok_mInit {f : Addr} {fd : FuncData} (F : Fun K "__init__" "Message.__init__" sMInit f fd) (T : Txt K mg) (M : MsgT K mg C) (dN : Def P w K mg base "number_in" 1 ["row"] (spNumIn K)) : FnOk P w K mg base CX0 2 f fd ["self", "row"] (spMInit K C) := by
  obtain ⟨fN, fdN, mN, kN, bN, GN⟩ := dN.ex
  refine F.ok scMInit (fun vs H Q E h => ?_) (fun cdv A outer s H vs Q E hr h => ?_)
  · obtain ⟨p, r, dx, l, rfl, _⟩ := h
    rfl
  · obtain ⟨p, r, dx, l, rfl, hp, hS, hl, k⟩ := h
    refine ⟨_, pss_cons (ps_fld (pv 0) (pe_ix ix_list (pv 1) pe_int (fun _ _ => rfl)) rfl)
      (pss_cons (ps_fld (pv 0) (pe_ix ix_list (pv 1) pe_int (fun _ _ => rfl)) rfl)
      (pss_cons (ps_fld (pv 0) (pe_ix ix_list (pv 1) pe_int (fun _ _ => rfl)) rfl)
      (pss_cons (ps_fld (pv 0) (pe_ix ix_list (pv 1) pe_int (fun _ _ => rfl)) rfl)
      (pss_cons (ps_fld (pv 0) (pe_call GN hr rfl mN kN bN .nil pass0 (pa_cons (pe_slice sl_list (pv 1) (po_some pe_int) (po_some pe_int)) pa_nil)) rfl)
      (pss_one (ps_fld (pv 0) (pe_call GN hr rfl mN kN bN .nil pass0 (pa_cons (pe_slice sl_list (pv 1) (po_some pe_int) (po_some pe_int)) pa_nil)) rfl)))))), ?_⟩
    have h0 := sq_upd (o := .ins C dx (putF "kind" (.int (Km259.at_ l 0 1 : Int)) [])) hS hp
    have h1 := sq_upd (o := .ins C dx (putF "gate" (.int (Km259.at_ l 1 1 : Int)) (putF "kind" (.int (Km259.at_ l 0 1 : Int)) []))) h0 upd_same
    have h2 := sq_upd (o := .ins C dx (putF "going" (.int (Km259.at_ l 2 1 : Int)) (putF "gate" (.int (Km259.at_ l 1 1 : Int)) (putF "kind" (.int (Km259.at_ l 0 1 : Int)) [])))) h1 upd_same
    have h3 := sq_upd (o := .ins C dx (putF "nought" (.int (Km259.at_ l 3 1 : Int)) (putF "going" (.int (Km259.at_ l 2 1 : Int)) (putF "gate" (.int (Km259.at_ l 1 1 : Int)) (putF "kind" (.int (Km259.at_ l 0 1 : Int)) []))))) h2 upd_same
    refine ⟨_, rfl, r, _, _, _, rfl, rfl, hS, iv_at (i := 0) (by rw [hl]; decide), _, rfl, p, C, dx, _, rfl, hp, M.cl, M.kind, (by show 0 < 1000; decide), ?_⟩
    refine ⟨_, rfl, r, _, _, _, rfl, rfl, h0, iv_at (i := 1) (by rw [hl]; decide), _, rfl, p, C, dx, _, rfl, upd_same, M.cl, M.gate, fw (pl (Nat.le_refl 0)), ?_⟩
    refine ⟨_, rfl, r, _, _, _, rfl, rfl, h1, iv_at (i := 2) (by rw [hl]; decide), _, rfl, p, C, dx, _, rfl, upd_same, M.cl, M.going, fw (pl (pl (Nat.le_refl 0))), ?_⟩
    refine ⟨_, rfl, r, _, _, _, rfl, rfl, h2, iv_at (i := 3) (by rw [hl]; decide), _, rfl, p, C, dx, _, rfl, upd_same, M.cl, M.nought, fw (pl (pl (pl (Nat.le_refl 0)))), ?_⟩
    refine ⟨_, rfl, 4, rfl, 8, rfl, r, _, rfl, h3, fun q1 hq1 => ?_⟩
    have n1 : p ≠ q1 := ne_of_none upd_same hq1
    refine ⟨q1, (l.drop 4).take 4, rfl, SqL.of (by rw [upd_same]; exact congrArg (fun z => some (HO.lst z)) (cut_nn (a := 4) (b := 8) (by decide) (by rw [hl]; decide))), ?_⟩
    refine ⟨_, rfl, p, C, dx, _, rfl, (upd_ne n1).trans upd_same, M.cl, M.number, fw (pl (pl (pl (pl (Nat.le_refl 0))))), ?_⟩
    refine ⟨_, rfl, 8, rfl, 12, rfl, r, _, rfl, sq_upd (sq_new h3 hq1) ((upd_ne n1).trans upd_same), fun q2 hq2 => ?_⟩
    have n2 : p ≠ q2 := ne_of_none upd_same hq2
    refine ⟨q2, (l.drop 8).take 4, rfl, SqL.of (by rw [upd_same]; exact congrArg (fun z => some (HO.lst z)) (cut_nn (a := 8) (b := 12) (by decide) (by rw [hl]; decide))), ?_⟩
    refine ⟨_, rfl, p, C, dx, _, rfl, (upd_ne n2).trans upd_same, M.cl, M.tag, fw (pl (pl (pl (pl (pl (Nat.le_refl 0)))))), ?_⟩
    refine k _ ⟨dx, upd_same.trans (congrArg (fun z => some (HO.ins C dx z)) (mFs_new _ _ _ _ _ _))⟩ fun b o e nb => ?_
    have e0 : (upd H p (.ins C dx [])) b = some o := (upd_ne nb).trans e
    have m1 : b ≠ q1 := by
      intro z
      rw [z] at e nb
      rw [upd_ne nb, upd_ne nb, upd_ne nb, upd_ne nb, e] at hq1
      cases hq1
    have m2 : b ≠ q2 := by
      intro z
      rw [z] at e nb m1
      rw [upd_ne nb, upd_ne m1, upd_ne nb, upd_ne nb, upd_ne nb, upd_ne nb, e] at hq2
      cases hq2
    rw [upd_ne nb, upd_ne m2, upd_ne nb, upd_ne m1, upd_ne nb, upd_ne nb, upd_ne nb, upd_ne nb]
    exact e
/-! ### numbers_fit, fits -/
def spNums (C : Addr) : Sp := fun vs H Q _ => ∃ (p : Addr) (m : Km259.Msg) (z : Nat), vs = [.ref p] ∧ MsgZ C H p m z ∧ Q (.bl (numsB m)) H
theorem scNums : FnScope ["self"] ["self"] (defScope sNums) := ⟨rfl, rfl, rfl, by decide +kernel, rfl, by decide +kernel, by decide +kernel⟩
theorem ok_nums {f : Addr} {fd : FuncData} (F : Fun K "numbers_fit" "Message.numbers_fit" sNums f fd) (T : Txt K mg) (M : MsgT K mg C) : FnOk P w K mg base CX0 1 f fd ["self"] (spNums C) := by
  refine F.ok scNums (fun vs H Q E h => ?_) (fun cdv A outer s H vs Q E hr h => ?_)
  · obtain ⟨p, m, z, rfl, _⟩ := h
    rfl
  · obtain ⟨p, m, z, rfl, ⟨dx, hp⟩, k⟩ := h
    refine ⟨_, pss_cons (ps_if (PW.pt (pw_and (PW.pt (pw_or (pt_cmpR op_eq (pe_fld (pv 0) rfl) (pe_gi rfl T.gPASS) (nomark _)) (pw_or1 (pt_cmpR op_eq (pe_fld (pv 0) rfl) (pe_gi rfl T.gHAD) (nomark _)))))
          (pw_and1 (pt_cmpR op_eq (pe_fld (pv 0) rfl) pe_int (nomark _))))) (pss_one (ps_ret pe_bl)) pss_nil)
      (pss_cons (ps_if (PW.pt (pw_and (PW.pt (pw_or (pt_cmpR op_eq (pe_fld (pv 0) rfl) (pe_gi rfl T.gLOCK) (nomark _)) (pw_or1 (pt_cmpR op_eq (pe_fld (pv 0) rfl) (pe_gi rfl T.gFREE) (nomark _)))))
          (pw_and1 (pt_cmpR op_ne (pe_fld (pv 0) rfl) pe_int (nomark _))))) (pss_one (ps_ret pe_bl)) pss_nil)
      (pss_one (ps_ret (pe_cmpR op_eq (pe_cmpR op_eq (pe_fld (pv 0) rfl) pe_int (nomark _)) (pe_cmpR op_eq (pe_fld (pv 0) rfl) (pe_gi rfl T.gHAD) (nomark _)) (nomark _))))), ?_⟩
    -- the last row, once for all
    have last : ¬ ((m.kind = 1 ∨ m.kind = 2) ∧ m.number = 0) → ¬ ((m.kind = 4 ∨ m.kind = 6) ∧ m.number ≠ 0) →
        Q (.bl (decide (V.bl (decide (V.int (m.tag : Int) = V.int 0)) = V.bl (decide (V.int (m.kind : Int) = V.int 2))))) H := by
      intro c1 c2
      have e : decide (V.bl (decide (V.int (m.tag : Int) = V.int 0)) = V.bl (decide (V.int (m.kind : Int) = V.int 2))) = numsB m := by
        unfold numsB
        rw [if_neg c1, if_neg c2, dVb]
        have e1 := dVn m.tag 0
        have e2 := dVn m.kind 2
        have e1' : decide (V.int (m.tag : Int) = V.int 0) = decide (m.tag = 0) := e1
        have e2' : decide (V.int (m.kind : Int) = V.int 2) = decide (m.kind = 2) := e2
        rw [e1', e2']
      rw [e]
      exact k
    have no : (m.kind = 1 ∨ m.kind = 2) ∧ m.number = 0 → Q (.bl false) H := by
      intro c
      have e : numsB m = false := by
        unfold numsB
        rw [if_pos c]
      rw [← e]
      exact k
    have no2 : ¬ ((m.kind = 1 ∨ m.kind = 2) ∧ m.number = 0) → (m.kind = 4 ∨ m.kind = 6) ∧ m.number ≠ 0 → Q (.bl false) H := by
      intro c1 c
      have e : numsB m = false := by
        unfold numsB
        rw [if_neg c1, if_pos c]
      rw [← e]
      exact k
    have three : ¬ ((m.kind = 1 ∨ m.kind = 2) ∧ m.number = 0) → ¬ ((m.kind = 4 ∨ m.kind = 6) ∧ m.number ≠ 0) → tRet (tOp rEq (tOp rEq (tFld K (tVar 0) "tag") (tC (.int 0))) (tOp rEq (tFld K (tVar 0) "kind") (tC (.int 2)))) { nx := fun _ H' => Q .non H', rt := Q } [some (.ref p)] H := by
      intro c1 c2
      exact ⟨_, rfl, p, C, dx, _, _, rfl, hp, M.cl, M.tag, mFs_tag _ _ _ _ _ _, rfl, _, rfl, p, C, dx, _, _, rfl, hp, M.cl, M.kind, mFs_kind _ _ _ _ _ _, rfl, rfl, last c1 c2⟩
    have two : ¬ ((m.kind = 1 ∨ m.kind = 2) ∧ m.number = 0) → tSeq (tIfS (tAnd (tOr (tTest (tOp rEq (tFld K (tVar 0) "kind") (tC (.int 4)))) (tTest (tOp rEq (tFld K (tVar 0) "kind") (tC (.int 6))))) (tTest (tOp rNe (tFld K (tVar 0) "number") (tC (.int 0))))) (tRet (tC (.bl false))) tNext)
        (tRet (tOp rEq (tOp rEq (tFld K (tVar 0) "tag") (tC (.int 0))) (tOp rEq (tFld K (tVar 0) "kind") (tC (.int 2))))) { nx := fun _ H' => Q .non H', rt := Q } [some (.ref p)] H := by
      intro c1
      have num : (m.kind = 4 ∨ m.kind = 6) → tTest (tOp rNe (tFld K (tVar 0) "number") (tC (.int 0))) [some (.ref p)] H (fun b H1 => if b = true then tRet (tC (.bl false)) { nx := fun _ H' => Q .non H', rt := Q } [some (.ref p)] H1 else tNext { nx := tRet (tOp rEq (tOp rEq (tFld K (tVar 0) "tag") (tC (.int 0))) (tOp rEq (tFld K (tVar 0) "kind") (tC (.int 2)))) { nx := fun _ H' => Q .non H', rt := Q }, rt := Q } [some (.ref p)] H1) := by
        intro ck
        refine ⟨_, rfl, p, C, dx, _, _, rfl, hp, M.cl, M.number, mFs_number _ _ _ _ _ _, rfl, _, rfl, ?_⟩
        exact iteJ (fun c => no2 c1 ⟨ck, by omega⟩) (fun c => three c1 fun z => z.2 (by omega))
      refine ⟨_, rfl, p, C, dx, _, _, rfl, hp, M.cl, M.kind, mFs_kind _ _ _ _ _ _, rfl, _, rfl, ?_⟩
      refine iteI (fun c => ?_) (fun c => ?_)
      · exact iteT (num (.inl (by omega)))
      · refine ⟨_, rfl, p, C, dx, _, _, rfl, hp, M.cl, M.kind, mFs_kind _ _ _ _ _ _, rfl, _, rfl, ?_⟩
        refine iteI (fun c' => ?_) (fun c' => ?_)
        · exact num (.inr (by omega))
        · exact three c1 fun z => by omega
    refine ⟨_, rfl, p, C, dx, _, _, rfl, hp, M.cl, M.kind, mFs_kind _ _ _ _ _ _, rfl, _, rfl, ?_⟩
    refine iteI (fun c => ?_) (fun c => ?_)
    · refine iteT ⟨_, rfl, p, C, dx, _, _, rfl, hp, M.cl, M.number, mFs_number _ _ _ _ _ _, rfl, _, rfl, ?_⟩
      exact iteI (fun c' => no ⟨by omega, by omega⟩) (fun c' => two fun z => by omega)
    · refine ⟨_, rfl, p, C, dx, _, _, rfl, hp, M.cl, M.kind, mFs_kind _ _ _ _ _ _, rfl, _, rfl, ?_⟩
      refine iteI (fun c' => ?_) (fun c' => ?_)
      · refine ⟨_, rfl, p, C, dx, _, _, rfl, hp, M.cl, M.number, mFs_number _ _ _ _ _ _, rfl, _, rfl, ?_⟩
        exact iteI (fun c' => no ⟨by omega, by omega⟩) (fun c' => two fun z => by omega)
      · exact two fun z => by omega
end
end Cy

namespace Cy
open PySem PySem.Spec PyProof.Rows L2
theorem iteIn {A B : Prop} {k : Nat} {ks : List Nat} (h1 : k ∉ ks → A) (h2 : k ∈ ks → B) : if (if true = true then !inV (.int (k : Int)) (iv ks) else inV (.int (k : Int)) (iv ks)) = true then A else B := by
  rw [if_pos rfl, inV_iv]
  by_cases e : k ∈ ks
  · rw [decide_eq_true e]
    exact iteF (h2 e)
  · rw [decide_eq_false e]
    exact iteT (h1 e)
/-- a class that is made by its name -/
structure Mkr (P : Program) (w : World) (K : PySem.W.Frag) (mg : Str → Option Value) (base : Heap) (C : Addr) (k : Nat) (ps : List Str) (sp : Sp) : Prop where
  ex : ∃ (f : Addr) (fd : FuncData), Mk K C f ∧ Binds K fd ps [] ∧ FnOk P w K mg base CX0 k f fd ps sp
section
variable {P : Program} {w : World} {K : PySem.W.Frag} {mg : Str → Option Value} {base : Heap} {C : Addr}
def spFits (K : PySem.W.Frag) (C : Addr) : Sp := fun vs H Q _ => ∃ (p ka : Addr) (m : Km259.Msg) (z : Nat) (ks : List Nat), vs = [.ref p, .ref ka] ∧ MsgZ C H p m z ∧ SqT K H ka (iv ks) ∧ Q (.bl (fitsB ks m z)) H
theorem scFits : FnScope ["self", "kinds"] ["self", "kinds"] (defScope sFits) := ⟨rfl, rfl, rfl, by decide +kernel, rfl, by decide +kernel, by decide +kernel⟩
theorem ok_fits {f : Addr} {fd : FuncData} (F : Fun K "fits" "Message.fits" sFits f fd) (T : Txt K mg) (M : MsgT K mg C) (dN : Mth P w K mg base C "numbers_fit" 1 ["self"] (spNums C)) : FnOk P w K mg base CX0 2 f fd ["self", "kinds"] (spFits K C) := by
  obtain ⟨fN, fdN, mN, bN, GN⟩ := dN.ex
  refine F.ok scFits (fun vs H Q E h => ?_) (fun cdv A outer s H vs Q E hr h => ?_)
  · obtain ⟨p, ka, m, z, ks, rfl, _⟩ := h
    rfl
  · obtain ⟨p, ka, m, z, ks, rfl, ⟨dx, hp⟩, hT, k⟩ := h
    refine ⟨_, pss_cons (ps_if (PW.pt (pw_or (pt_cmpR op_notIn_seq (pe_fld (pv 0) rfl) (pv 1) rfl) (pw_or (pt_cmpR op_gt (pe_fld (pv 0) rfl) (pe_gi rfl T.gMOST_GATE) (nomark _))
          (pw_or (pt_cmpR op_gt (pe_fld (pv 0) rfl) pe_int (nomark _)) (pw_or1 (pt_cmpR op_ne (pe_fld (pv 0) rfl) pe_int (nomark _))))))) (pss_one (ps_ret pe_bl)) pss_nil)
      (pss_one (ps_ret (pe_and (pe_or (pe_cmpR op_eq (pe_fld (pv 0) rfl) pe_int (nomark _)) (pe_one (pe_cmpR op_eq (pe_fld (pv 0) rfl) (pe_gi rfl T.gPASS) (nomark _))))
        (pe_one (pe_meth0 (pv 0) M.cl mN GN hr bN .nil pass0))))), ?_⟩
    have no : (m.kind ∉ ks ∨ 7 < m.gate ∨ 1 < m.in_ ∨ z ≠ 0) → Q (.bl false) H := by
      intro c
      have e : fitsB ks m z = false := by
        unfold fitsB
        rw [if_pos c]
      rw [← e]
      exact k
    have yes : ¬ (m.kind ∉ ks ∨ 7 < m.gate ∨ 1 < m.in_ ∨ z ≠ 0) → (m.in_ = 0 ∨ m.kind = 1) → Q (.bl (numsB m)) H := by
      intro c d
      have e : fitsB ks m z = numsB m := by
        unfold fitsB
        rw [if_neg c, decide_eq_true d, Bool.true_and]
      rw [← e]
      exact k
    have no2 : ¬ (m.kind ∉ ks ∨ 7 < m.gate ∨ 1 < m.in_ ∨ z ≠ 0) → ¬ (m.in_ = 0 ∨ m.kind = 1) → Q (.bl false) H := by
      intro c d
      have e : fitsB ks m z = false := by
        unfold fitsB
        rw [if_neg c, decide_eq_false d, Bool.false_and]
      rw [← e]
      exact k
    refine ⟨_, rfl, p, C, dx, _, _, rfl, hp, M.cl, M.kind, mFs_kind _ _ _ _ _ _, _, rfl, ka, _, rfl, .inr hT, rfl, flat_iv ks, _, rfl, ?_⟩
    refine iteIn (fun c => iteT (no (.inl c))) (fun c1 => ?_)
    refine ⟨_, rfl, p, C, dx, _, _, rfl, hp, M.cl, M.gate, mFs_gate _ _ _ _ _ _, _, _, rfl, rfl, _, rfl, ?_⟩
    refine iteD (fun c => iteT (no (.inr (.inl (by omega))))) (fun c2 => ?_)
    refine ⟨_, rfl, p, C, dx, _, _, rfl, hp, M.cl, M.going, mFs_going _ _ _ _ _ _, _, _, rfl, rfl, _, rfl, ?_⟩
    refine iteD (fun c => iteT (no (.inr (.inr (.inl (by omega)))))) (fun c3 => ?_)
    refine ⟨_, rfl, p, C, dx, _, _, rfl, hp, M.cl, M.nought, mFs_nought _ _ _ _ _ _, rfl, _, rfl, ?_⟩
    refine iteJ (fun c => no (.inr (.inr (.inr (by omega))))) (fun c4 => ?_)
    have cc : ¬ (m.kind ∉ ks ∨ 7 < m.gate ∨ 1 < m.in_ ∨ z ≠ 0) := by
      rintro (z1 | z1 | z1 | z1)
      · exact z1 c1
      · omega
      · omega
      · omega
    refine ⟨_, rfl, p, C, dx, _, _, rfl, hp, M.cl, M.going, mFs_going _ _ _ _ _ _, rfl, _, rfl, ?_⟩
    refine iteI (fun c => ?_) (fun c => ?_)
    · refine ⟨_, rfl, iteT ?_⟩
      exact ⟨_, rfl, p, dx, _, rfl, hp, mFs_no_numbers_fit _ _ _ _ _ _, p, m, z, rfl, ⟨dx, hp⟩, yes cc (.inl (by omega))⟩
    · refine ⟨_, rfl, p, C, dx, _, _, rfl, hp, M.cl, M.kind, mFs_kind _ _ _ _ _ _, rfl, _, rfl, ?_⟩
      refine iteI (fun c' => ?_) (fun c' => ?_)
      · exact ⟨_, rfl, p, dx, _, rfl, hp, mFs_no_numbers_fit _ _ _ _ _ _, p, m, z, rfl, ⟨dx, hp⟩, yes cc (.inr (by omega))⟩
      · exact no2 cc (by omega)
/-! ### message_in -/
def spMsgIn (K : PySem.W.Frag) (C : Addr) : Sp := fun vs H Q _ => ∃ (r ka : Addr) (l ks : List Nat), vs = [.ref r, .ref ka] ∧ SqL K H r (iv l) ∧ SqT K H ka (iv ks) ∧ (∀ b ∈ l, b < 256) ∧ (∀ k ∈ ks, k = 1 ∨ k = 2 ∨ k = 4 ∨ k = 5 ∨ k = 6) ∧
  (Km259.rightOf ks l l.length = none → ∀ H' : Hp, Same H H' → Q .non H') ∧
  (∀ m, Km259.rightOf ks l l.length = some m → ∀ (H' : Hp) (p : Addr), Same H H' → MsgAt C H' p m → Q (.ref p) H')
theorem scMsgIn : FnScope ["row", "kinds", "message"] ["row", "kinds"] (defScope sMsgIn) := ⟨rfl, rfl, rfl, by decide +kernel, rfl, by decide +kernel, by decide +kernel⟩
theorem ok_msgIn {f : Addr} {fd : FuncData} (F : Fun K "message_in" "message_in" sMsgIn f fd) (T : Txt K mg) (M : MsgT K mg C) (dN : Def P w K mg base "number_in" 1 ["row"] (spNumIn K)) (dC : Def P w K mg base "check_of" 2 ["row"] (spCheck K))
    (dI : Mkr P w K mg base C 2 ["self", "row"] (spMInit K C)) (dF : Mth P w K mg base C "fits" 2 ["self", "kinds"] (spFits K C)) : FnOk P w K mg base CX0 4 f fd ["row", "kinds"] (spMsgIn K C) := by
  obtain ⟨fN, fdN, mN, kN, bN, GN⟩ := dN.ex
  obtain ⟨fC, fdC, mC, kC, bC, GC⟩ := dC.ex
  obtain ⟨fI, fdI, MI, bI, GI⟩ := dI.ex
  obtain ⟨fF, fdF, mF, bF, GF⟩ := dF.ex
  refine F.ok scMsgIn (fun vs H Q E h => ?_) (fun cdv A outer s H vs Q E hr h => ?_)
  · obtain ⟨r, ka, l, ks, rfl, _⟩ := h
    rfl
  · obtain ⟨r, ka, l, ks, rfl, hS, hT, hb, hk, kN', kS⟩ := h
    have hr1 : Room 1 _ := hr.mono (by decide)
    have hr2 : Room 2 _ := hr.mono (by decide)
    refine ⟨_, pss_cons (ps_if (PW.pt (pw_or (pt_cmpR op_ne (pe_callB call_len_seq rfl T.len PySem.boot_len (pa_cons (pv 0) pa_nil)) (pe_gi rfl T.gSIZE) (nomark _))
          (pw_or1 (pt_cmpR op_ne (pe_call GN hr1 rfl mN kN bN .nil pass0 (pa_cons (pe_slice sl_list (pv 0) (po_some (pe_gi rfl T.gCHECKED)) po_none) pa_nil))
            (pe_call GC hr2 rfl mC kC bC .nil pass0 (pa_cons (pe_slice sl_list (pv 0) po_none (po_some (pe_gi rfl T.gCHECKED))) pa_nil)) (nomark _))))) (pss_one (ps_ret pe_non)) pss_nil)
      (pss_cons (ps_set (i := 2) scMsgIn.nd rfl (.inl rfl) (pe_make MI GI hr rfl M.g bI .nil pass0 (pa_cons (pv 0) pa_nil)))
      (pss_cons (ps_if (pt_not (pt_val (pe_meth (pv 2) M.cl mF GF hr2 bF .nil pass0 (pa_cons (pv 1) pa_nil)))) (pss_one (ps_ret pe_non)) pss_nil)
      (pss_one (ps_ret (pv 2))))), ?_⟩
    have eq := rightOf_eq hk hb
    refine ⟨_, rfl, r, _, rfl, .inl hS, rfl, _, rfl, ?_⟩
    rw [iv_len]
    refine iteJ (fun c => iteT ?_) (fun c => ?_)
    · refine kN' ?_ H (Same.refl H)
      rw [eq, if_neg]
      rintro ⟨z, _⟩
      unfold checks at z
      rw [Bool.and_eq_true, decide_eq_true_eq] at z
      omega
    · have hl : l.length = 16 := by omega
      refine ⟨_, rfl, 12, rfl, r, _, rfl, hS, fun q1 hq1 => ?_⟩
      refine ⟨q1, l.drop 12, rfl, SqL.of (by rw [upd_same]; exact congrArg (fun z => some (HO.lst z)) (cut_no (a := 12) (by rw [hl]; decide))), ?_⟩
      have s1 : Same H (upd H q1 (.lst (cutV (iv l) (some 12) none))) := same_new (Same.refl H) hq1
      refine ⟨_, rfl, 12, rfl, r, _, rfl, s1.seq hS, fun q2 hq2 => ?_⟩
      refine ⟨q2, l.take 12, rfl, SqL.of (by rw [upd_same]; exact congrArg (fun z => some (HO.lst z)) (cut_on (b := 12) (by rw [hl]; decide))), ?_⟩
      have s2 : Same H (upd (upd H q1 (.lst (cutV (iv l) (some 12) none))) q2 (.lst (cutV (iv l) none (some 12)))) := same_new s1 (s1.free hq2)
      refine ⟨rfl, _, rfl, ?_⟩
      refine iteJ (fun c => ?_) (fun c => ?_)
      · refine kN' ?_ _ s2
        rw [eq, if_neg]
        rintro ⟨z, _⟩
        unfold checks at z
        rw [Bool.and_eq_true, decide_eq_true_eq, decide_eq_true_eq] at z
        exact c (congrArg (fun (n : Nat) => (n : Int)) z.2)
      · have hc : checks l = true := by
          unfold checks
          rw [Bool.and_eq_true, decide_eq_true_eq, decide_eq_true_eq]
          exact ⟨hl, by omega⟩
        refine ⟨_, rfl, fun x dx nx ndx nex => ?_⟩
        refine ⟨x, r, dx, l, rfl, upd_same, ?_, hl, fun H3 hm kp => ⟨rfl, ?_⟩⟩
        · exact (same_new (same_new s2 (s2.free ndx)) (s2.free nx)).seq hS
        · have s3 : Same H H3 := fun b o e => by
            have nb : b ≠ x := ne_of_none e (s2.free nx)
            refine kp b o ?_ nb
            rw [upd_ne nb, upd_ne (ne_of_none e (s2.free ndx))]
            exact s2 b o e
          obtain ⟨dm, hm'⟩ := id hm
          refine ⟨_, rfl, x, dm, _, rfl, hm', mFs_no_fits _ _ _ _ _ _, _, rfl, x, ka, parts l, Km259.at_ l 3 1, ks, rfl, hm, sqT_same s3 hT, _, rfl, ?_⟩
          rw [hc] at eq
          cases e : fitsB ks (parts l) (Km259.at_ l 3 1) with
          | true =>
            rw [e, if_pos ⟨rfl, rfl⟩] at eq
            exact iteF ⟨_, rfl, kS _ eq H3 x s3 ⟨_, hm⟩⟩
          | false =>
            rw [e, if_neg (fun z => Bool.noConfusion z.2)] at eq
            exact iteT (kN' eq H3 s3)
end
end Cy

namespace Cy
open PySem PySem.Spec PyProof.Rows L2
def gFs (v1 v2 v3 v4 v5 v6 v7 : V) : List (Str × V) := [("me", v1), ("last", v2), ("kept", v3), ("number", v4), ("is_locked", v5), ("ticks", v6), ("things", v7)]
theorem gFs_me (v1 v2 v3 v4 v5 v6 v7 : V) : (gFs v1 v2 v3 v4 v5 v6 v7).lookup ("me" : Str) = some v1 := lk_here
theorem gFs_last (v1 v2 v3 v4 v5 v6 v7 : V) : (gFs v1 v2 v3 v4 v5 v6 v7).lookup ("last" : Str) = some v2 := (lk_past (by decide +kernel)).trans lk_here
theorem gFs_kept (v1 v2 v3 v4 v5 v6 v7 : V) : (gFs v1 v2 v3 v4 v5 v6 v7).lookup ("kept" : Str) = some v3 := (lk_past (by decide +kernel)).trans ((lk_past (by decide +kernel)).trans lk_here)
theorem gFs_number (v1 v2 v3 v4 v5 v6 v7 : V) : (gFs v1 v2 v3 v4 v5 v6 v7).lookup ("number" : Str) = some v4 := (lk_past (by decide +kernel)).trans ((lk_past (by decide +kernel)).trans ((lk_past (by decide +kernel)).trans lk_here))
theorem gFs_is_locked (v1 v2 v3 v4 v5 v6 v7 : V) : (gFs v1 v2 v3 v4 v5 v6 v7).lookup ("is_locked" : Str) = some v5 := (lk_past (by decide +kernel)).trans ((lk_past (by decide +kernel)).trans ((lk_past (by decide +kernel)).trans ((lk_past (by decide +kernel)).trans lk_here)))
theorem gFs_ticks (v1 v2 v3 v4 v5 v6 v7 : V) : (gFs v1 v2 v3 v4 v5 v6 v7).lookup ("ticks" : Str) = some v6 := (lk_past (by decide +kernel)).trans ((lk_past (by decide +kernel)).trans ((lk_past (by decide +kernel)).trans ((lk_past (by decide +kernel)).trans ((lk_past (by decide +kernel)).trans lk_here))))
theorem gFs_things (v1 v2 v3 v4 v5 v6 v7 : V) : (gFs v1 v2 v3 v4 v5 v6 v7).lookup ("things" : Str) = some v7 := (lk_past (by decide +kernel)).trans ((lk_past (by decide +kernel)).trans ((lk_past (by decide +kernel)).trans ((lk_past (by decide +kernel)).trans ((lk_past (by decide +kernel)).trans ((lk_past (by decide +kernel)).trans lk_here)))))
theorem gFs_no_send_first (v1 v2 v3 v4 v5 v6 v7 : V) : (gFs v1 v2 v3 v4 v5 v6 v7).lookup ("send_first" : Str) = none := (lk_past (by decide +kernel)).trans ((lk_past (by decide +kernel)).trans ((lk_past (by decide +kernel)).trans ((lk_past (by decide +kernel)).trans ((lk_past (by decide +kernel)).trans ((lk_past (by decide +kernel)).trans ((lk_past (by decide +kernel)).trans rfl))))))
theorem gFs_no_send_locked (v1 v2 v3 v4 v5 v6 v7 : V) : (gFs v1 v2 v3 v4 v5 v6 v7).lookup ("send_locked" : Str) = none := (lk_past (by decide +kernel)).trans ((lk_past (by decide +kernel)).trans ((lk_past (by decide +kernel)).trans ((lk_past (by decide +kernel)).trans ((lk_past (by decide +kernel)).trans ((lk_past (by decide +kernel)).trans ((lk_past (by decide +kernel)).trans rfl))))))
theorem gFs_no_set_lock (v1 v2 v3 v4 v5 v6 v7 : V) : (gFs v1 v2 v3 v4 v5 v6 v7).lookup ("set_lock" : Str) = none := (lk_past (by decide +kernel)).trans ((lk_past (by decide +kernel)).trans ((lk_past (by decide +kernel)).trans ((lk_past (by decide +kernel)).trans ((lk_past (by decide +kernel)).trans ((lk_past (by decide +kernel)).trans ((lk_past (by decide +kernel)).trans rfl))))))
theorem gFs_no_go_by (v1 v2 v3 v4 v5 v6 v7 : V) : (gFs v1 v2 v3 v4 v5 v6 v7).lookup ("go_by" : Str) = none := (lk_past (by decide +kernel)).trans ((lk_past (by decide +kernel)).trans ((lk_past (by decide +kernel)).trans ((lk_past (by decide +kernel)).trans ((lk_past (by decide +kernel)).trans ((lk_past (by decide +kernel)).trans ((lk_past (by decide +kernel)).trans rfl))))))
theorem gFs_no_take_had (v1 v2 v3 v4 v5 v6 v7 : V) : (gFs v1 v2 v3 v4 v5 v6 v7).lookup ("take_had" : Str) = none := (lk_past (by decide +kernel)).trans ((lk_past (by decide +kernel)).trans ((lk_past (by decide +kernel)).trans ((lk_past (by decide +kernel)).trans ((lk_past (by decide +kernel)).trans ((lk_past (by decide +kernel)).trans ((lk_past (by decide +kernel)).trans rfl))))))
theorem gFs_no_take_lock (v1 v2 v3 v4 v5 v6 v7 : V) : (gFs v1 v2 v3 v4 v5 v6 v7).lookup ("take_lock" : Str) = none := (lk_past (by decide +kernel)).trans ((lk_past (by decide +kernel)).trans ((lk_past (by decide +kernel)).trans ((lk_past (by decide +kernel)).trans ((lk_past (by decide +kernel)).trans ((lk_past (by decide +kernel)).trans ((lk_past (by decide +kernel)).trans rfl))))))
theorem gFs_no_take_free (v1 v2 v3 v4 v5 v6 v7 : V) : (gFs v1 v2 v3 v4 v5 v6 v7).lookup ("take_free" : Str) = none := (lk_past (by decide +kernel)).trans ((lk_past (by decide +kernel)).trans ((lk_past (by decide +kernel)).trans ((lk_past (by decide +kernel)).trans ((lk_past (by decide +kernel)).trans ((lk_past (by decide +kernel)).trans ((lk_past (by decide +kernel)).trans rfl))))))
theorem gFs_no_heard (v1 v2 v3 v4 v5 v6 v7 : V) : (gFs v1 v2 v3 v4 v5 v6 v7).lookup ("heard" : Str) = none := (lk_past (by decide +kernel)).trans ((lk_past (by decide +kernel)).trans ((lk_past (by decide +kernel)).trans ((lk_past (by decide +kernel)).trans ((lk_past (by decide +kernel)).trans ((lk_past (by decide +kernel)).trans ((lk_past (by decide +kernel)).trans rfl))))))
theorem gFs_no_tick (v1 v2 v3 v4 v5 v6 v7 : V) : (gFs v1 v2 v3 v4 v5 v6 v7).lookup ("tick" : Str) = none := (lk_past (by decide +kernel)).trans ((lk_past (by decide +kernel)).trans ((lk_past (by decide +kernel)).trans ((lk_past (by decide +kernel)).trans ((lk_past (by decide +kernel)).trans ((lk_past (by decide +kernel)).trans ((lk_past (by decide +kernel)).trans rfl))))))
theorem gFs_no_state (v1 v2 v3 v4 v5 v6 v7 : V) : (gFs v1 v2 v3 v4 v5 v6 v7).lookup ("state" : Str) = none := (lk_past (by decide +kernel)).trans ((lk_past (by decide +kernel)).trans ((lk_past (by decide +kernel)).trans ((lk_past (by decide +kernel)).trans ((lk_past (by decide +kernel)).trans ((lk_past (by decide +kernel)).trans ((lk_past (by decide +kernel)).trans rfl))))))
theorem gFs_put_me (v1 v2 v3 v4 v5 v6 v7 x : V) : putF "me" x (gFs v1 v2 v3 v4 v5 v6 v7) = gFs x v2 v3 v4 v5 v6 v7 := put_here
theorem gFs_put_last (v1 v2 v3 v4 v5 v6 v7 x : V) : putF "last" x (gFs v1 v2 v3 v4 v5 v6 v7) = gFs v1 x v3 v4 v5 v6 v7 := (put_past (by decide +kernel)).trans (congrArg _ put_here)
theorem gFs_put_kept (v1 v2 v3 v4 v5 v6 v7 x : V) : putF "kept" x (gFs v1 v2 v3 v4 v5 v6 v7) = gFs v1 v2 x v4 v5 v6 v7 := (put_past (by decide +kernel)).trans (congrArg _ ((put_past (by decide +kernel)).trans (congrArg _ put_here)))
theorem gFs_put_number (v1 v2 v3 v4 v5 v6 v7 x : V) : putF "number" x (gFs v1 v2 v3 v4 v5 v6 v7) = gFs v1 v2 v3 x v5 v6 v7 := (put_past (by decide +kernel)).trans (congrArg _ ((put_past (by decide +kernel)).trans (congrArg _ ((put_past (by decide +kernel)).trans (congrArg _ put_here)))))
theorem gFs_put_is_locked (v1 v2 v3 v4 v5 v6 v7 x : V) : putF "is_locked" x (gFs v1 v2 v3 v4 v5 v6 v7) = gFs v1 v2 v3 v4 x v6 v7 := (put_past (by decide +kernel)).trans (congrArg _ ((put_past (by decide +kernel)).trans (congrArg _ ((put_past (by decide +kernel)).trans (congrArg _ ((put_past (by decide +kernel)).trans (congrArg _ put_here)))))))
theorem gFs_put_ticks (v1 v2 v3 v4 v5 v6 v7 x : V) : putF "ticks" x (gFs v1 v2 v3 v4 v5 v6 v7) = gFs v1 v2 v3 v4 v5 x v7 := (put_past (by decide +kernel)).trans (congrArg _ ((put_past (by decide +kernel)).trans (congrArg _ ((put_past (by decide +kernel)).trans (congrArg _ ((put_past (by decide +kernel)).trans (congrArg _ ((put_past (by decide +kernel)).trans (congrArg _ put_here)))))))))
theorem gFs_put_things (v1 v2 v3 v4 v5 v6 v7 x : V) : putF "things" x (gFs v1 v2 v3 v4 v5 v6 v7) = gFs v1 v2 v3 v4 v5 v6 x := (put_past (by decide +kernel)).trans (congrArg _ ((put_past (by decide +kernel)).trans (congrArg _ ((put_past (by decide +kernel)).trans (congrArg _ ((put_past (by decide +kernel)).trans (congrArg _ ((put_past (by decide +kernel)).trans (congrArg _ ((put_past (by decide +kernel)).trans (congrArg _ put_here)))))))))))
theorem gFs_new (v1 v2 v3 v4 v5 v6 v7 : V) : putF "things" v7 (putF "ticks" v6 (putF "is_locked" v5 (putF "number" v4 (putF "kept" v3 (putF "last" v2 (putF "me" v1 [])))))) = gFs v1 v2 v3 v4 v5 v6 v7 := by
  have e1 : putF "last" v2 ([("me", v1)] : List (Str × V)) = ([("me", v1), ("last", v2)] : List (Str × V)) := put_new (by show ("last" : Str) ∉ (["me"] : List Str); decide +kernel)
  have e2 : putF "kept" v3 ([("me", v1), ("last", v2)] : List (Str × V)) = ([("me", v1), ("last", v2), ("kept", v3)] : List (Str × V)) := put_new (by show ("kept" : Str) ∉ (["me", "last"] : List Str); decide +kernel)
  have e3 : putF "number" v4 ([("me", v1), ("last", v2), ("kept", v3)] : List (Str × V)) = ([("me", v1), ("last", v2), ("kept", v3), ("number", v4)] : List (Str × V)) := put_new (by show ("number" : Str) ∉ (["me", "last", "kept"] : List Str); decide +kernel)
  have e4 : putF "is_locked" v5 ([("me", v1), ("last", v2), ("kept", v3), ("number", v4)] : List (Str × V)) = ([("me", v1), ("last", v2), ("kept", v3), ("number", v4), ("is_locked", v5)] : List (Str × V)) := put_new (by show ("is_locked" : Str) ∉ (["me", "last", "kept", "number"] : List Str); decide +kernel)
  have e5 : putF "ticks" v6 ([("me", v1), ("last", v2), ("kept", v3), ("number", v4), ("is_locked", v5)] : List (Str × V)) = ([("me", v1), ("last", v2), ("kept", v3), ("number", v4), ("is_locked", v5), ("ticks", v6)] : List (Str × V)) := put_new (by show ("ticks" : Str) ∉ (["me", "last", "kept", "number", "is_locked"] : List Str); decide +kernel)
  have e6 : putF "things" v7 ([("me", v1), ("last", v2), ("kept", v3), ("number", v4), ("is_locked", v5), ("ticks", v6)] : List (Str × V)) = ([("me", v1), ("last", v2), ("kept", v3), ("number", v4), ("is_locked", v5), ("ticks", v6), ("things", v7)] : List (Str × V)) := put_new (by show ("things" : Str) ∉ (["me", "last", "kept", "number", "is_locked", "ticks"] : List Str); decide +kernel)
  show putF "things" v7 (putF "ticks" v6 (putF "is_locked" v5 (putF "number" v4 (putF "kept" v3 (putF "last" v2 (([("me", v1)] : List (Str × V)))))))) = _
  rw [e1, e2, e3, e4, e5, e6]
  rfl
/-! ### what a list of addresses stands for -/
def Two {α β : Type} (R : α → β → Prop) : List α → List β → Prop
  | [], [] => True
  | a :: l, b :: m => R a b ∧ Two R l m
  | _, _ => False
theorem Two.mono {α β : Type} {R R' : α → β → Prop} : ∀ {l : List α} {m : List β}, Two R l m → (∀ a ∈ l, ∀ b, R a b → R' a b) → Two R' l m
  | [], [], _, _ => trivial
  | a :: l, b :: m, h, k => ⟨k a (List.mem_cons_self ..) b h.1, Two.mono h.2 fun x hx => k x (List.mem_cons_of_mem _ hx)⟩
  | [], _ :: _, h, _ => h.elim
  | _ :: _, [], h, _ => h.elim
theorem Two.snoc {α β : Type} {R : α → β → Prop} {x : α} {y : β} : ∀ {l : List α} {m : List β}, Two R l m → R x y → Two R (l ++ [x]) (m ++ [y])
  | [], [], _, r => ⟨r, trivial⟩
  | _ :: _, _ :: _, h, r => ⟨h.1, Two.snoc h.2 r⟩
  | [], _ :: _, h, _ => h.elim
  | _ :: _, [], h, _ => h.elim
theorem Two.len {α β : Type} {R : α → β → Prop} : ∀ {l : List α} {m : List β}, Two R l m → l.length = m.length
  | [], [], _ => rfl
  | _ :: _, _ :: _, h => congrArg (· + 1) (Two.len h.2)
  | [], _ :: _, h => h.elim
  | _ :: _, [], h => h.elim
theorem Two.mem {α β : Type} {R : α → β → Prop} : ∀ {l : List α} {m : List β} {x : α}, Two R l m → x ∈ l → ∃ y, R x y
  | _ :: _, b :: _, x, h, hx => by
    rcases List.mem_cons.mp hx with rfl | hx
    · exact ⟨b, h.1⟩
    · exact Two.mem h.2 hx
  | _ :: _, [], _, h, _ => h.elim
theorem Two.at {α β : Type} {R : α → β → Prop} : ∀ {l : List α} {m : List β} {i : Nat} {x : α}, Two R l m → l[i]? = some x → ∃ y, m[i]? = some y ∧ R x y
  | a :: _, b :: _, 0, x, h, e => ⟨b, rfl, by have : a = x := Option.some.inj e; rw [← this]; exact h.1⟩
  | _ :: l, _ :: m, i + 1, x, h, e => Two.at (l := l) (m := m) (i := i) h.2 e
  | _ :: _, [], _, _, h, _ => h.elim
def ThingAt (H : Hp) (t : Addr) (x : Km259.Told) : Prop := H t = some (.lst ((Km259Neutral.shown x).map V.int))
def KeptAt (H : Hp) (t : Addr) (p : Km259.Pass) : Prop := H t = some (.tup [.int (p.number : Int), .int (p.tag : Int), .int (p.in_ : Int)])
theorem nums_iv (l : List Nat) : (Km259Neutral.nums l).map V.int = iv l := by
  unfold Km259Neutral.nums iv
  rw [List.map_map]
  rfl
/-- from one footprint and heap to another -/
structure Gr (fp : List Addr) (H : Hp) (fp' : List Addr) (H' : Hp) : Prop where
  new : ∀ b ∈ fp', b ∈ fp ∨ H b = none
  keep : ∀ b o, b ∉ fp → H b = some o → H' b = some o
theorem Gr.trans {f1 f2 f3 : List Addr} {H1 H2 H3 : Hp} (a : Gr f1 H1 f2 H2) (b : Gr f2 H2 f3 H3) : Gr f1 H1 f3 H3 where
  new := fun x hx => by
    rcases b.new x hx with h | h
    · exact a.new x h
    · by_cases hm : x ∈ f1
      · exact .inl hm
      · cases e : H1 x with
        | none => exact .inr rfl
        | some o =>
          have := a.keep x o hm e
          rw [h] at this
          cases this
  keep := fun x o hm e => by
    refine b.keep x o (fun h2 => ?_) (a.keep x o hm e)
    rcases a.new x h2 with h | h
    · exact hm h
    · rw [e] at h
      cases h
theorem Gr.same {fp : List Addr} {H H' : Hp} (s : Same H H') : Gr fp H fp H' := ⟨fun _ h => .inl h, fun b o _ e => s b o e⟩
/-! ### a gate in the heap -/
structure GA where
  a : Addr
  lk : Addr
  lt : Addr
  tk : Nat
  ks : List Addr
  ts : List Addr
def GA.fp (A : GA) : List Addr := A.a :: A.lk :: A.lt :: (A.ks ++ A.ts)
abbrev gR (g : Km259.Gate) (A : GA) : List (Str × V) := gFs (.int (g.me : Int)) (.int (g.last : Int)) (.ref A.lk) (.int (g.lock : Int)) (.bl g.locked) (.int (A.tk : Int)) (.ref A.lt)
structure GateAt (C : Addr) (H : Hp) (A : GA) (g : Km259.Gate) (ths : List Km259.Told) : Prop where
  obj : ∃ dx, H A.a = some (.ins C dx (gR g A))
  tick : A.tk % 10 = g.ticks
  kl : H A.lk = some (.lst (A.ks.map V.ref))
  kt : Two (KeptAt H) A.ks g.kept
  tl : H A.lt = some (.lst (A.ts.map V.ref))
  tt : Two (ThingAt H) A.ts ths
  few : g.kept.length ≤ 64
  n1 : A.lk ≠ A.lt
  n2 : ∀ t ∈ A.ts, t ≠ A.lk ∧ t ≠ A.lt
structure GStep (C : Addr) (H : Hp) (A : GA) (H' : Hp) (A' : GA) (g' : Km259.Gate) (ths' : List Km259.Told) : Prop where
  same : A'.a = A.a
  ok : GateAt C H' A' g' ths'
  gr : Gr A.fp H A'.fp H'
theorem GStep.trans {C : Addr} {H H1 H2 : Hp} {A A1 A2 : GA} {g1 g2 : Km259.Gate} {t1 t2 : List Km259.Told} (x : GStep C H A H1 A1 g1 t1) (y : GStep C H1 A1 H2 A2 g2 t2) : GStep C H A H2 A2 g2 t2 :=
  ⟨y.same.trans x.same, y.ok, x.gr.trans y.gr⟩
theorem ne_mem {b x : Addr} {l : List Addr} (hb : b ∉ l) (hx : x ∈ l) : b ≠ x := fun z => hb (z ▸ hx)
theorem fp_a (A : GA) : A.a ∈ A.fp := List.mem_cons_self ..
theorem fp_lk (A : GA) : A.lk ∈ A.fp := List.mem_cons_of_mem _ (List.mem_cons_self ..)
theorem fp_lt (A : GA) : A.lt ∈ A.fp := List.mem_cons_of_mem _ (List.mem_cons_of_mem _ (List.mem_cons_self ..))
theorem fp_ks {A : GA} {k : Addr} (h : k ∈ A.ks) : k ∈ A.fp := List.mem_cons_of_mem _ (List.mem_cons_of_mem _ (List.mem_cons_of_mem _ (List.mem_append_left _ h)))
theorem fp_ts {A : GA} {k : Addr} (h : k ∈ A.ts) : k ∈ A.fp := List.mem_cons_of_mem _ (List.mem_cons_of_mem _ (List.mem_cons_of_mem _ (List.mem_append_right _ h)))
theorem fp_cases {A : GA} {b : Addr} (h : b ∈ A.fp) : b = A.a ∨ b = A.lk ∨ b = A.lt ∨ b ∈ A.ks ∨ b ∈ A.ts := by
  rcases List.mem_cons.mp h with h | h
  · exact .inl h
  rcases List.mem_cons.mp h with h | h
  · exact .inr (.inl h)
  rcases List.mem_cons.mp h with h | h
  · exact .inr (.inr (.inl h))
  rcases List.mem_append.mp h with h | h
  · exact .inr (.inr (.inr (.inl h)))
  · exact .inr (.inr (.inr (.inr h)))
section
variable {C : Addr} {H H' : Hp} {A : GA} {g : Km259.Gate} {ths : List Km259.Told}
theorem GateAt.tracked (G : GateAt C H A g ths) : ∀ b ∈ A.fp, ∃ o, H b = some o := by
  intro b hb
  rcases fp_cases hb with rfl | rfl | rfl | h | h
  · obtain ⟨dx, e⟩ := G.obj
    exact ⟨_, e⟩
  · exact ⟨_, G.kl⟩
  · exact ⟨_, G.tl⟩
  · obtain ⟨y, e⟩ := G.kt.mem h
    exact ⟨_, e⟩
  · obtain ⟨y, e⟩ := G.tt.mem h
    exact ⟨_, e⟩
theorem GateAt.fresh (G : GateAt C H A g ths) {p : Addr} (hp : H p = none) : p ∉ A.fp := fun h => by
  obtain ⟨o, e⟩ := G.tracked p h
  rw [hp] at e
  cases e
theorem GateAt.kept (G : GateAt C H A g ths) (s : ∀ b ∈ A.fp, ∀ o, H b = some o → H' b = some o) : GateAt C H' A g ths where
  obj := by
    obtain ⟨dx, e⟩ := G.obj
    exact ⟨dx, s _ (fp_a A) _ e⟩
  tick := G.tick
  kl := s _ (fp_lk A) _ G.kl
  kt := G.kt.mono fun k hk p e => s _ (fp_ks hk) _ e
  tl := s _ (fp_lt A) _ G.tl
  tt := G.tt.mono fun k hk p e => s _ (fp_ts hk) _ e
  few := G.few
  n1 := G.n1
  n2 := G.n2
theorem GateAt.same (G : GateAt C H A g ths) (s : Same H H') : GateAt C H' A g ths := G.kept fun b _ o e => s b o e
theorem GateAt.stepSame (G : GateAt C H A g ths) (s : Same H H') : GStep C H A H' A g ths := ⟨rfl, G.same s, Gr.same s⟩
/-- a thing is told: a new list at p behind the others -/
theorem GateAt.push (G : GateAt C H A g ths) (s : Same H H') {p : Addr} {x : Km259.Told} (hp : H p = none) (e : ThingAt H' p x) : GStep C H A (upd H' A.lt (.lst (A.ts.map V.ref ++ [.ref p]))) { A with ts := A.ts ++ [p] } g (ths ++ [x]) := by
  have G' := G.same s
  have np := G.fresh hp
  have ne1 : p ≠ A.lt := fun z => np (z ▸ fp_lt A)
  have ne2 : p ≠ A.lk := fun z => np (z ▸ fp_lk A)
  refine ⟨rfl, ⟨?_, G.tick, ?_, ?_, ?_, ?_, G.few, G.n1, ?_⟩, ⟨?_, ?_⟩⟩
  · obtain ⟨dx, e1⟩ := G'.obj
    exact ⟨dx, (upd_ne (ne_of e1 G'.tl (by intro z; cases z))).trans e1⟩
  · exact (upd_ne G.n1).trans G'.kl
  · exact G'.kt.mono fun k hk q e1 => (upd_ne (ne_of e1 G'.tl (by intro z; cases z))).trans e1
  · show upd H' A.lt (.lst (A.ts.map V.ref ++ [.ref p])) A.lt = some (.lst ((A.ts ++ [p]).map V.ref))
    rw [upd_same, List.map_append]
    rfl
  · refine Two.snoc (G'.tt.mono fun k hk q e1 => (upd_ne (G.n2 k hk).2).trans e1) ?_
    exact (upd_ne ne1).trans e
  · intro t ht
    rcases List.mem_append.mp ht with ht | ht
    · exact G.n2 t ht
    · have : t = p := by simpa using ht
      rw [this]
      exact ⟨ne2, ne1⟩
  · intro b hb
    rcases fp_cases hb with h | h | h | h | h
    · exact .inl (h ▸ fp_a A)
    · exact .inl (h ▸ fp_lk A)
    · exact .inl (h ▸ fp_lt A)
    · exact .inl (fp_ks h)
    · rcases List.mem_append.mp h with h | h
      · exact .inl (fp_ts h)
      · have : b = p := by simpa using h
        rw [this]
        exact .inr hp
  · intro b o hb eb
    rw [upd_ne (ne_mem hb (fp_lt A))]
    exact s b o eb
/-- its numbers change -/
theorem GateAt.put (G : GateAt C H A g ths) {dx : Addr} (hd : H A.a = some (.ins C dx (gR g A))) {g' : Km259.Gate} {tk : Nat} (hk : g'.kept = g.kept) (ht : tk % 10 = g'.ticks) :
    GStep C H A (upd H A.a (.ins C dx (gR g' { A with tk := tk }))) { A with tk := tk } g' ths := by
  have nk : A.lk ≠ A.a := ne_of G.kl hd (by intro z; cases z)
  have nt : A.lt ≠ A.a := ne_of G.tl hd (by intro z; cases z)
  refine ⟨rfl, ⟨⟨dx, upd_same⟩, ht, (upd_ne nk).trans G.kl, ?_, (upd_ne nt).trans G.tl, ?_, by rw [hk]; exact G.few, G.n1, G.n2⟩, ⟨fun b hb => .inl hb, ?_⟩⟩
  · rw [hk]
    exact G.kt.mono fun k hk q e1 => (upd_ne (ne_of e1 hd (by intro z; cases z))).trans e1
  · exact G.tt.mono fun k hk q e1 => (upd_ne (ne_of e1 hd (by intro z; cases z))).trans e1
  · intro b o hb eb
    rw [upd_ne (ne_mem hb (fp_a A))]
    exact eb
/-- one more that isn't had -/
theorem GateAt.more (G : GateAt C H A g ths) {p : Addr} {x : Km259.Pass} (hp : H p = none) (hf : g.kept.length < 64) :
    GStep C H A (upd (upd H p (.tup [.int (x.number : Int), .int (x.tag : Int), .int (x.in_ : Int)])) A.lk (.lst (A.ks.map V.ref ++ [.ref p]))) { A with ks := A.ks ++ [p] } { g with kept := g.kept ++ [x] } ths := by
  have s : Same H (upd H p (.tup [.int (x.number : Int), .int (x.tag : Int), .int (x.in_ : Int)])) := same_new (Same.refl H) hp
  have G' := G.same s
  have np := G.fresh hp
  have ne1 : p ≠ A.lk := fun z => np (z ▸ fp_lk A)
  refine ⟨rfl, ⟨?_, G.tick, ?_, ?_, ?_, ?_, ?_, G.n1, G.n2⟩, ⟨?_, ?_⟩⟩
  · obtain ⟨dx, e1⟩ := G'.obj
    exact ⟨dx, (upd_ne (ne_of e1 G'.kl (by intro z; cases z))).trans e1⟩
  · show upd _ A.lk (.lst (A.ks.map V.ref ++ [.ref p])) A.lk = some (.lst ((A.ks ++ [p]).map V.ref))
    rw [upd_same, List.map_append]
    rfl
  · refine Two.snoc (G'.kt.mono fun k hk q e1 => (upd_ne (ne_of e1 G'.kl (by intro z; cases z))).trans e1) ?_
    exact (upd_ne ne1).trans upd_same
  · exact (upd_ne G.n1.symm).trans G'.tl
  · exact G'.tt.mono fun k hk q e1 => (upd_ne (G.n2 k hk).1).trans e1
  · show (g.kept ++ [x]).length ≤ 64
    rw [List.length_append]
    exact hf
  · intro b hb
    rcases fp_cases hb with h | h | h | h | h
    · exact .inl (h ▸ fp_a A)
    · exact .inl (h ▸ fp_lk A)
    · exact .inl (h ▸ fp_lt A)
    · rcases List.mem_append.mp h with h | h
      · exact .inl (fp_ks h)
      · have : b = p := by simpa using h
        rw [this]
        exact .inr hp
    · exact .inl (fp_ts h)
  · intro b o hb eb
    rw [upd_ne (ne_mem hb (fp_lk A))]
    exact s b o eb
/-- the first one is had -/
theorem GateAt.rest (G : GateAt C H A g ths) {dx p k : Addr} {ks : List Addr} {x : Km259.Pass} {r : List Km259.Pass} (hd : H A.a = some (.ins C dx (gR g A))) (hp : H p = none) (hk : A.ks = k :: ks) (hx : g.kept = x :: r) :
    GStep C H A (upd (upd H p (.lst (ks.map V.ref))) A.a (.ins C dx (gR { g with kept := r } { A with lk := p, ks := ks }))) { A with lk := p, ks := ks } { g with kept := r } ths := by
  have s : Same H (upd H p (.lst (ks.map V.ref))) := same_new (Same.refl H) hp
  have G' := G.same s
  have hd' := s _ _ hd
  have np := G.fresh hp
  have na : p ≠ A.a := fun z => np (z ▸ fp_a A)
  have kt := G'.kt
  rw [hk, hx] at kt
  refine ⟨rfl, ⟨⟨dx, upd_same⟩, G.tick, (upd_ne na).trans upd_same, ?_, ?_, ?_, ?_, ?_, ?_⟩, ⟨?_, ?_⟩⟩
  · exact kt.2.mono fun k hk q e1 => (upd_ne (ne_of e1 hd' (by intro z; cases z))).trans e1
  · exact (upd_ne (ne_of G'.tl hd' (by intro z; cases z))).trans G'.tl
  · exact G'.tt.mono fun k hk q e1 => (upd_ne (ne_of e1 hd' (by intro z; cases z))).trans e1
  · have := G.few
    rw [hx, List.length_cons] at this
    show r.length ≤ 64
    omega
  · exact ne_mem np (fp_lt A)
  · intro t ht
    exact ⟨(ne_mem np (fp_ts ht)).symm, (G.n2 t ht).2⟩
  · intro b hb
    rcases fp_cases hb with h | h | h | h | h
    · exact .inl (h ▸ fp_a A)
    · exact .inr (by rw [h]; exact hp)
    · exact .inl (h ▸ fp_lt A)
    · exact .inl (fp_ks (by rw [hk]; exact List.mem_cons_of_mem _ h))
    · exact .inl (fp_ts h)
  · intro b o hb eb
    rw [upd_ne (ne_mem hb (fp_a A))]
    exact s b o eb
/-- what was told is told; the heap behind: a new empty list at q -/
theorem GateAt.quiet (G : GateAt C H A g ths) {dx q : Addr} (hd : H A.a = some (.ins C dx (gR g A))) (hq : H q = none) (s : ∀ b o, b ≠ A.a → H b = some o → H' b = some o) (ha : H' A.a = some (.ins C dx (gR g { A with lt := q, ts := [] }))) (eq : H' q = some (.lst [])) :
    GStep C H A H' { A with lt := q, ts := [] } g [] := by
  have np := G.fresh hq
  refine ⟨rfl, ⟨⟨dx, ha⟩, G.tick, ?_, ?_, eq, trivial, G.few, ?_, ?_⟩, ⟨?_, ?_⟩⟩
  · exact s _ _ (ne_of G.kl hd (by intro z; cases z)) G.kl
  · exact G.kt.mono fun k hk q e1 => s _ _ (ne_of e1 hd (by intro z; cases z)) e1
  · exact (ne_mem np (fp_lk A)).symm
  · intro t ht
    cases ht
  · intro b hb
    rcases fp_cases hb with h | h | h | h | h
    · exact .inl (h ▸ fp_a A)
    · exact .inl (h ▸ fp_lk A)
    · exact .inr (by rw [h]; exact hq)
    · exact .inl (fp_ks h)
    · cases h
  · intro b o hb eb
    exact s b o (fun z => hb (z ▸ fp_a A)) eb
end
/-! ### messages and gates stand apart -/
theorem MsgAt.notGate {CM C : Addr} {H : Hp} {A : GA} {g : Km259.Gate} {ths : List Km259.Told} {p : Addr} {m : Km259.Msg} (M : MsgAt CM H p m) (G : GateAt C H A g ths) : p ∉ A.fp := by
  obtain ⟨z, dm, hm⟩ := M
  obtain ⟨dx, hd⟩ := G.obj
  intro h
  rcases fp_cases h with h | h | h | h | h
  · rw [h, hd] at hm
    have e := (HO.ins.inj (Option.some.inj hm)).2.2
    have e2 := congrArg List.length e
    have e3 : (7 : Nat) = 6 := e2
    exact absurd e3 (by decide)
  · rw [h, G.kl] at hm
    cases hm
  · rw [h, G.tl] at hm
    cases hm
  · obtain ⟨y, e⟩ := G.kt.mem h
    have e : H p = _ := e
    rw [e] at hm
    cases hm
  · obtain ⟨y, e⟩ := G.tt.mem h
    have e : H p = _ := e
    rw [e] at hm
    cases hm
theorem MsgAt.step {CM C : Addr} {H H' : Hp} {A A' : GA} {g g' : Km259.Gate} {ths ths' : List Km259.Told} {p : Addr} {m : Km259.Msg} (M : MsgAt CM H p m) (G : GateAt C H A g ths) (S : GStep C H A H' A' g' ths') : MsgAt CM H' p m := by
  have n := M.notGate G
  obtain ⟨z, dm, hm⟩ := M
  exact ⟨z, dm, S.gr.keep _ _ n hm⟩
end Cy

namespace Cy
open PySem PySem.Spec PyProof.Rows L2
abbrev sGInit : Stmt := inClass (top 39) 0
abbrev sSendFirst : Stmt := inClass (top 39) 1
abbrev sSendLocked : Stmt := inClass (top 39) 2
abbrev sSetLock : Stmt := inClass (top 39) 3
abbrev sGoBy : Stmt := inClass (top 39) 4
abbrev sTakeHad : Stmt := inClass (top 39) 5
structure GateT (K : PySem.W.Frag) (mg : Str → Option Value) (C : Addr) : Prop where
  cl : Cls K C
  g : mg "Gate" = some (.ref C)
  me : NoAttr K C "me"
  last : NoAttr K C "last"
  kept : NoAttr K C "kept"
  number : NoAttr K C "number"
  is_locked : NoAttr K C "is_locked"
  ticks : NoAttr K C "ticks"
  things : NoAttr K C "things"
/-- a tuple of numbers of the top -/
structure Tup (K : PySem.W.Frag) (mg : Str → Option Value) (x : Str) (ks : List Nat) : Prop where
  ex : ∃ a, mg x = some (.ref a) ∧ ∀ H, SqT K H a (iv ks)
def passD (p : Km259.Pass) : PyData := .tuple [.int (p.number : Int), .int (p.tag : Int), .int (p.in_ : Int)]
theorem kept_dp {K : PySem.W.Frag} {H : Hp} : ∀ {ks : List Addr} {ps : List Km259.Pass}, Two (KeptAt H) ks ps → DpAll K H (ks.map V.ref) (ps.map passD)
  | [], [], _ => .nil
  | k :: ks, p :: ps, h => .cons (.tup (SqT.of h.1) (.cons (.int _) (.cons (.int _) (.cons (.int _) .nil)))) (kept_dp h.2)
  | [], _ :: _, h => h.elim
  | _ :: _, [], h => h.elim
theorem passD_lay : ∀ ps : List Km259.Pass, PyData.canLayAll0 (ps.map passD) = true
  | [] => by simp [PyData.canLayAll0]
  | p :: ps => by
    rw [List.map_cons, PyData.canLayAll0, passD_lay ps]
    simp [passD, PyData.canLay0, PyData.canLayAll0]
theorem passD_depth : ∀ ps : List Km259.Pass, PyData.depthAll (ps.map passD) ≤ 1
  | [] => by simp [PyData.depthAll]
  | p :: ps => by
    rw [List.map_cons, PyData.depthAll]
    have ih := passD_depth ps
    have e : (passD p).depth = 1 := by simp [passD, PyData.depth, PyData.depthAll]
    rw [e]
    omega
theorem passD_shaped (ps : List Km259.Pass) : SeqAt.shaped (.list (ps.map passD)) = true := by
  unfold SeqAt.shaped
  rw [Bool.and_eq_true, decide_eq_true_eq]
  refine ⟨?_, ?_⟩
  · rw [PyData.canLay0]
    exact passD_lay ps
  · rw [PyData.depth]
    have := passD_depth ps
    omega
theorem nil_shaped : SeqAt.shaped (.list []) = true := passD_shaped []
theorem iteK {A B : Prop} {ps : List Km259.Pass} (h1 : ps ≠ [] → A) (h2 : ps = [] → B) : if (!PyData.eqv (.list (ps.map passD)) (.list [])) = true then A else B := by
  cases ps with
  | nil =>
    have e : PyData.eqv (.list (([] : List Km259.Pass).map passD)) (.list []) = true := by simp [PyData.eqv, PyData.eqvAll]
    rw [e]
    exact iteF (h2 rfl)
  | cons p r =>
    have e : PyData.eqv (.list ((p :: r).map passD)) (.list []) = false := by simp [PyData.eqv, PyData.eqvAll]
    rw [e]
    exact iteT (h1 (by simp))
section
variable {P : Program} {w : World} {K : PySem.W.Frag} {mg : Str → Option Value} {base : Heap} {C CM : Addr}
/-! ### __init__ -/
def spGInit (C : Addr) : Sp := fun vs H Q _ => ∃ (p dx : Addr) (me : Nat), vs = [.ref p, .int (me : Int)] ∧ H p = some (.ins C dx []) ∧
  ∀ (H' : Hp) (A' : GA), A'.a = p → GateAt C H' A' (Km259.gate0 me) [] → (∀ b ∈ A'.fp, b = p ∨ H b = none) → (∀ b o, b ≠ p → H b = some o → H' b = some o) → Q .non H'
theorem scGInit : FnScope ["self", "me"] ["self", "me"] (defScope sGInit) := ⟨rfl, rfl, rfl, by decide +kernel, rfl, by decide +kernel, by decide +kernel⟩
theorem ok_gInit {f : Addr} {fd : FuncData} (F : Fun K "__init__" "Gate.__init__" sGInit f fd) (T : Txt K mg) (G : GateT K mg C) : FnOk P w K mg base CX0 1 f fd ["self", "me"] (spGInit C) := by
  refine F.ok scGInit (fun vs H Q E h => ?_) (fun cdv A outer s H vs Q E hr h => ?_)
  · obtain ⟨p, dx, me, rfl, _⟩ := h
    rfl
  · obtain ⟨p, dx, me, rfl, hp, k⟩ := h
    refine ⟨_, pss_cons (ps_fld (pv 0) (pv 1) rfl) (pss_cons (ps_fld (pv 0) pe_int rfl) (pss_cons (ps_fld (pv 0) (pe_lst pa_nil) rfl) (pss_cons (ps_fld (pv 0) pe_int rfl)
      (pss_cons (ps_fld (pv 0) pe_bl rfl) (pss_cons (ps_fld (pv 0) pe_int rfl) (pss_one (ps_fld (pv 0) (pe_lst pa_nil) rfl))))))), ?_⟩
    refine ⟨_, rfl, _, rfl, p, C, dx, _, rfl, hp, G.cl, G.me, (by show 0 < 1000; decide), ?_⟩
    refine ⟨_, rfl, p, C, dx, _, rfl, upd_same, G.cl, G.last, fw (pl (Nat.le_refl 0)), ?_⟩
    refine ⟨Nat.zero_le _, fun q1 hq1 => ?_⟩
    have n1 : p ≠ q1 := ne_of_none upd_same hq1
    refine ⟨_, rfl, p, C, dx, _, rfl, (upd_ne n1).trans upd_same, G.cl, G.kept, fw (pl (pl (Nat.le_refl 0))), ?_⟩
    refine ⟨_, rfl, p, C, dx, _, rfl, upd_same, G.cl, G.number, fw (pl (pl (pl (Nat.le_refl 0)))), ?_⟩
    refine ⟨_, rfl, p, C, dx, _, rfl, upd_same, G.cl, G.is_locked, fw (pl (pl (pl (pl (Nat.le_refl 0))))), ?_⟩
    refine ⟨_, rfl, p, C, dx, _, rfl, upd_same, G.cl, G.ticks, fw (pl (pl (pl (pl (pl (Nat.le_refl 0)))))), ?_⟩
    refine ⟨Nat.zero_le _, fun q2 hq2 => ?_⟩
    have n2 : p ≠ q2 := ne_of_none upd_same hq2
    have n3 : q1 ≠ q2 := by
      intro z
      rw [← z, upd_ne n1.symm, upd_ne n1.symm, upd_ne n1.symm, upd_ne n1.symm, upd_same] at hq2
      cases hq2
    refine ⟨_, rfl, p, C, dx, _, rfl, (upd_ne n2).trans upd_same, G.cl, G.things, fw (pl (pl (pl (pl (pl (pl (Nat.le_refl 0))))))), ?_⟩
    have f1 : H q1 = none := by
      rw [upd_ne n1.symm, upd_ne n1.symm] at hq1
      exact hq1
    have f2 : H q2 = none := by
      rw [upd_ne n2.symm, upd_ne n2.symm, upd_ne n2.symm, upd_ne n2.symm, upd_ne n3.symm, upd_ne n2.symm, upd_ne n2.symm] at hq2
      exact hq2
    refine k _ ⟨p, q1, q2, 0, [], []⟩ rfl ⟨⟨dx, upd_same.trans (congrArg (fun z => some (HO.ins C dx z)) (gFs_new _ _ _ _ _ _ _))⟩, rfl, ?_, trivial, ?_, trivial, Nat.zero_le _, n3, fun t ht => nomatch ht⟩ ?_ ?_
    · show upd _ p _ q1 = _
      rw [upd_ne n1.symm, upd_ne n3, upd_ne n1.symm, upd_ne n1.symm, upd_ne n1.symm, upd_ne n1.symm, upd_same]
      rfl
    · show upd _ p _ q2 = _
      rw [upd_ne n2.symm, upd_same]
      rfl
    · intro b hb
      rcases fp_cases hb with h | h | h | h | h
      · exact .inl h
      · exact .inr (by rw [h]; exact f1)
      · exact .inr (by rw [h]; exact f2)
      · cases h
      · cases h
    · intro b o nb e
      rw [upd_ne nb, upd_ne (ne_of_none e f2), upd_ne nb, upd_ne nb, upd_ne nb, upd_ne nb, upd_ne (ne_of_none e f1), upd_ne nb, upd_ne nb]
      exact e
/-! ### what it sends -/
def spSendFirst (C : Addr) : Sp := fun vs H Q _ => ∃ (A : GA) (g : Km259.Gate) (ths : List Km259.Told), vs = [.ref A.a] ∧ GateAt C H A g ths ∧ g.kept ≠ [] ∧ ths.length ≤ 1000 ∧
  ∀ (H' : Hp) (A' : GA), GStep C H A H' A' g (ths ++ g.first) → Q .non H'
theorem scSendFirst : FnScope ["self", "number", "tag", "going"] ["self"] (defScope sSendFirst) := ⟨rfl, rfl, rfl, by decide +kernel, rfl, by decide +kernel, by decide +kernel⟩
theorem shown_gSend (l : List Nat) : (Km259Neutral.shown (.gSend l)).map V.int = [V.int 2] ++ iv l := by
  show V.int 2 :: (Km259Neutral.nums l).map V.int = _
  rw [nums_iv]
  rfl
theorem bytes_len (m : Km259.Msg) : m.bytes.length = 16 := by
  unfold Km259.Msg.bytes Km259.Msg.half
  rw [List.length_append, List.length_append, List.length_append, le_length, le_length, le_length]
  rfl
theorem ts_small {C : Addr} {H : Hp} {A : GA} {g : Km259.Gate} {ths : List Km259.Told} (G : GateAt C H A g ths) (h : ths.length ≤ 1000) : (A.ts.map V.ref).length < sizeLine := by
  rw [List.length_map, G.tt.len]
  exact small1000 h
theorem ok_sendFirst {f : Addr} {fd : FuncData} (F : Fun K "send_first" "Gate.send_first" sSendFirst f fd) (T : Txt K mg) (G : GateT K mg C) (dW : Def P w K mg base "written" 3 ["kind", "gate", "going", "number", "tag"] spWritten) : FnOk P w K mg base CX0 4 f fd ["self"] (spSendFirst C) := by
  obtain ⟨fW, fdW, mW, kW, bW, GW⟩ := dW.ex
  refine F.ok scSendFirst (fun vs H Q E h => ?_) (fun cdv A outer s H vs Q E hr h => ?_)
  · obtain ⟨A, g, ths, rfl, _⟩ := h
    rfl
  · obtain ⟨B, g, ths, rfl, gat, hx, hlen, k⟩ := h
    obtain ⟨dx, hd⟩ := gat.obj
    refine ⟨_, pss_cons (ps_asg (pe_ix ix_list (pe_fld (pv 0) rfl) pe_int (fun _ _ => rfl)) (pg_tup rfl (pgs_cons (pg_name (i := 1) scSendFirst.nd rfl (.inl rfl)) (pgs_cons (pg_name (i := 2) scSendFirst.nd rfl (.inl rfl)) (pgs_cons (pg_name (i := 3) scSendFirst.nd rfl (.inl rfl)) pgs_nil)))))
      (pss_one (ps_expr (pe_bm PySem.F.plainAttrs_list PySem.F.slot_list_append PySem.F.type_list_append mt_append (pe_fld (pv 0) rfl) (pa_cons (pe_op op_cat (pe_lst (pa_cons (pe_gi rfl T.gSENDS_gates) pa_nil))
        (pe_call GW hr rfl mW kW bW .nil pass0 (pa_cons (pe_gi rfl T.gPASS) (pa_cons (pe_fld (pv 0) rfl) (pa_cons (pv 3) (pa_cons (pv 1) (pa_cons (pv 2) pa_nil))))))) pa_nil)))), ?_⟩
    have ⟨p, r, ek⟩ : ∃ p r, g.kept = p :: r := by
      cases e : g.kept with
      | nil => exact absurd e hx
      | cons p r => exact ⟨p, r, rfl⟩
    have ⟨k0, ks, eks, hk0⟩ : ∃ k0 ks, B.ks = k0 :: ks ∧ KeptAt H k0 p := by
      have z := gat.kt
      rw [ek] at z
      cases e : B.ks with
      | nil =>
        rw [e] at z
        exact z.elim
      | cons k0 ks =>
        rw [e] at z
        exact ⟨k0, ks, rfl, z.1⟩
    have ef : g.first = [.gSend (Km259.Msg.bytes ⟨1, g.me, p.in_, p.number, p.tag⟩)] := by
      unfold Km259.Gate.first
      rw [ek]
    refine ⟨_, rfl, B.a, C, dx, _, _, rfl, hd, G.cl, G.kept, gFs_kept _ _ _ _ _ _ _, B.lk, _, _, .ref k0, rfl, rfl, SqL.of gat.kl, atI_nat (j := 0) (by rw [eks]; rfl), ?_⟩
    refine ⟨k0, _, rfl, SqT.of hk0, rfl, _, _, rfl, _, _, rfl, _, _, rfl, rfl, ?_⟩
    refine ⟨_, rfl, B.a, C, dx, _, _, rfl, hd, G.cl, G.things, gFs_things _ _ _ _ _ _ _, .inl ⟨rfl, _, SqL.of gat.tl⟩, (by show 1 ≤ sizeLine; decide), fun l hl => ?_⟩
    have s0 : Same H (upd H l (.lst [.int 2])) := same_new (Same.refl H) hl
    refine ⟨_, rfl, B.a, C, dx, _, _, rfl, s0 _ _ hd, G.cl, G.me, gFs_me _ _ _ _ _ _ _, _, rfl, _, rfl, _, rfl, 1, g.me, p.in_, p.number, p.tag, rfl, fun H1 p1 s1 e0 e1 => ?_⟩
    refine ⟨l, p1, _, _, rfl, rfl, s1 l _ upd_same, e1, (by rw [iv_len, bytes_len]; exact sz (m := 17) (by decide) (by decide)), fun c hc => ?_⟩
    have s2 : Same H H1 := s0.trans s1
    have hc0 : H c = none := s2.free hc
    have s3 : Same H (upd H1 c (.lst ([V.int 2] ++ iv (Km259.Msg.bytes ⟨1, g.me, p.in_, p.number, p.tag⟩)))) := same_new s2 hc0
    refine ⟨B.lt, _, _, rfl, rfl, s3 _ _ gat.tl, ts_small gat hlen, ?_⟩
    refine k _ { B with ts := B.ts ++ [c] } ?_
    rw [ef]
    refine gat.push s3 hc0 ?_
    show upd H1 c _ c = _
    rw [upd_same, shown_gSend]
def spSendLocked (C : Addr) : Sp := fun vs H Q _ => ∃ (A : GA) (g : Km259.Gate) (ths : List Km259.Told), vs = [.ref A.a] ∧ GateAt C H A g ths ∧ ths.length ≤ 1000 ∧
  ∀ (H' : Hp) (A' : GA), GStep C H A H' A' g (ths ++ g.five) → Q .non H'
theorem scSendLocked : FnScope ["self"] ["self"] (defScope sSendLocked) := ⟨rfl, rfl, rfl, by decide +kernel, rfl, by decide +kernel, by decide +kernel⟩
theorem ok_sendLocked {f : Addr} {fd : FuncData} (F : Fun K "send_locked" "Gate.send_locked" sSendLocked f fd) (T : Txt K mg) (G : GateT K mg C) (dW : Def P w K mg base "written" 3 ["kind", "gate", "going", "number", "tag"] spWritten) : FnOk P w K mg base CX0 4 f fd ["self"] (spSendLocked C) := by
  obtain ⟨fW, fdW, mW, kW, bW, GW⟩ := dW.ex
  refine F.ok scSendLocked (fun vs H Q E h => ?_) (fun cdv A outer s H vs Q E hr h => ?_)
  · obtain ⟨A, g, ths, rfl, _⟩ := h
    rfl
  · obtain ⟨B, g, ths, rfl, gat, hlen, k⟩ := h
    obtain ⟨dx, hd⟩ := gat.obj
    refine ⟨_, pss_one (ps_expr (pe_bm PySem.F.plainAttrs_list PySem.F.slot_list_append PySem.F.type_list_append mt_append (pe_fld (pv 0) rfl) (pa_cons (pe_op op_cat (pe_lst (pa_cons (pe_gi rfl T.gSENDS_gates) pa_nil))
        (pe_call GW hr rfl mW kW bW .nil pass0 (pa_cons (pe_gi rfl T.gLOCKED) (pa_cons (pe_fld (pv 0) rfl) (pa_cons pe_int (pa_cons (pe_fld (pv 0) rfl) (pa_cons (pe_fld (pv 0) rfl) pa_nil))))))) pa_nil))), ?_⟩
    refine ⟨_, rfl, B.a, C, dx, _, _, rfl, hd, G.cl, G.things, gFs_things _ _ _ _ _ _ _, .inl ⟨rfl, _, SqL.of gat.tl⟩, (by show 1 ≤ sizeLine; decide), fun l hl => ?_⟩
    have s0 : Same H (upd H l (.lst [.int 2])) := same_new (Same.refl H) hl
    refine ⟨_, rfl, B.a, C, dx, _, _, rfl, s0 _ _ hd, G.cl, G.me, gFs_me _ _ _ _ _ _ _, _, rfl, B.a, C, dx, _, _, rfl, s0 _ _ hd, G.cl, G.last, gFs_last _ _ _ _ _ _ _, _, rfl, B.a, C, dx, _, _, rfl, s0 _ _ hd, G.cl, G.number, gFs_number _ _ _ _ _ _ _, 5, g.me, 0, g.last, g.lock, rfl, fun H1 p1 s1 e0 e1 => ?_⟩
    refine ⟨l, p1, _, _, rfl, rfl, s1 l _ upd_same, e1, (by rw [iv_len, bytes_len]; exact sz (m := 17) (by decide) (by decide)), fun c hc => ?_⟩
    have s2 : Same H H1 := s0.trans s1
    have hc0 : H c = none := s2.free hc
    have s3 : Same H (upd H1 c (.lst ([V.int 2] ++ iv (Km259.Msg.bytes ⟨5, g.me, 0, g.last, g.lock⟩)))) := same_new s2 hc0
    refine ⟨B.lt, _, _, rfl, rfl, s3 _ _ gat.tl, ts_small gat hlen, ?_⟩
    refine k _ _ (gat.push s3 hc0 ?_)
    show upd H1 c _ c = _
    rw [upd_same, shown_gSend]
def spSetLock (C : Addr) : Sp := fun vs H Q _ => ∃ (A : GA) (g : Km259.Gate) (ths : List Km259.Told) (on : Bool), vs = [.ref A.a, .bl on] ∧ GateAt C H A g ths ∧ ths.length ≤ 1000 ∧
  ∀ (H' : Hp) (A' : GA), GStep C H A H' A' { g with locked := on } (ths ++ [.gLocks (Km259.b2n on)]) → Q .non H'
theorem scSetLock : FnScope ["self", "on"] ["self", "on"] (defScope sSetLock) := ⟨rfl, rfl, rfl, by decide +kernel, rfl, by decide +kernel, by decide +kernel⟩
theorem b2n_int (on : Bool) : ((if on then 1 else 0 : Int)) = ((Km259.b2n on : Nat) : Int) := by cases on <;> rfl
theorem ok_setLock {f : Addr} {fd : FuncData} (F : Fun K "set_lock" "Gate.set_lock" sSetLock f fd) (T : Txt K mg) (G : GateT K mg C) : FnOk P w K mg base CX0 1 f fd ["self", "on"] (spSetLock C) := by
  refine F.ok scSetLock (fun vs H Q E h => ?_) (fun cdv A outer s H vs Q E hr h => ?_)
  · obtain ⟨A, g, ths, on, rfl, _⟩ := h
    rfl
  · obtain ⟨B, g, ths, on, rfl, gat, hlen, k⟩ := h
    obtain ⟨dx, hd⟩ := gat.obj
    refine ⟨_, pss_cons (ps_fld (pv 0) (pv 1) rfl) (pss_one (ps_expr (pe_bm PySem.F.plainAttrs_list PySem.F.slot_list_append PySem.F.type_list_append mt_append (pe_fld (pv 0) rfl)
        (pa_cons (pe_lst (pa_cons (pe_gi rfl T.gLOCKS) (pa_cons (pe_callTy call_int1 rfl T.int PyProof.Rows.boot_int (pa_cons (pv 1) pa_nil)) pa_nil))) pa_nil)))), ?_⟩
    refine ⟨_, rfl, _, rfl, B.a, C, dx, _, rfl, hd, G.cl, G.is_locked, (by show 7 < 1000; decide), ?_⟩
    have S : GStep C H B (upd H B.a (.ins C dx (putF "is_locked" (.bl on) (gR g B)))) { B with tk := B.tk } { g with locked := on } ths := by
      rw [gFs_put_is_locked]
      exact gat.put (g' := { g with locked := on }) hd rfl gat.tick
    have g1 := S.ok
    obtain ⟨dy, hd1⟩ := g1.obj
    refine ⟨_, rfl, B.a, C, dy, _, _, rfl, hd1, G.cl, G.things, gFs_things _ _ _ _ _ _ _, .inl ⟨rfl, _, SqL.of g1.tl⟩, _, rfl, .inr ⟨on, rfl, ?_⟩⟩
    refine ⟨(by show 2 ≤ sizeLine; decide), fun c hc => ?_⟩
    have s3 := same_new (o := .lst [V.int 3, V.int (if on then 1 else 0)]) (Same.refl (upd H B.a (.ins C dx (putF "is_locked" (.bl on) (gR g B))))) hc
    refine ⟨B.lt, _, _, rfl, rfl, s3 _ _ g1.tl, ts_small g1 hlen, ?_⟩
    refine k _ _ (S.trans (g1.push s3 hc ?_))
    show upd _ c _ c = _
    rw [upd_same]
    show some (HO.lst [V.int 3, V.int (if on then 1 else 0)]) = some (HO.lst [V.int 3, V.int ((Km259.b2n on : Nat) : Int)])
    rw [b2n_int]
end
end Cy

namespace Cy
open PySem PySem.Spec PyProof.Rows L2
abbrev sTakeLock : Stmt := inClass (top 39) 6
abbrev sTakeFree : Stmt := inClass (top 39) 7
abbrev sGHeard : Stmt := inClass (top 39) 8
abbrev sGTick : Stmt := inClass (top 39) 9
abbrev sGState : Stmt := inClass (top 39) 10
section
variable {P : Program} {w : World} {K : PySem.W.Frag} {mg : Str → Option Value} {base : Heap} {C CM : Addr}
/-! ### go_by -/
/-- a gate's call that answers a number -/
def GDoes (C : Addr) (H : Hp) (A : GA) (g : Km259.Gate) (x : Km259.Call) (Q : VK) : Prop := ∀ (H' : Hp) (A' : GA) (g' : Km259.Gate) (t : List Km259.Told) (v : Int), g.does x = (g', t, .num v) → GStep C H A H' A' g' t → Q (.int v) H'
def spGoBy (C : Addr) : Sp := fun vs H Q _ => ∃ (A : GA) (g : Km259.Gate) (t i : Nat), vs = [.ref A.a, .int (t : Int), .int (i : Int)] ∧ GateAt C H A g [] ∧ GDoes C H A g (.pass t i) Q
theorem scGoBy : FnScope ["self", "tag", "going"] ["self", "tag", "going"] (defScope sGoBy) := ⟨rfl, rfl, rfl, by decide +kernel, rfl, by decide +kernel, by decide +kernel⟩
theorem ok_goBy {f : Addr} {fd : FuncData} (F : Fun K "go_by" "Gate.go_by" sGoBy f fd) (T : Txt K mg) (G : GateT K mg C) (dS : Mth P w K mg base C "send_first" 4 ["self"] (spSendFirst C)) : FnOk P w K mg base CX0 5 f fd ["self", "tag", "going"] (spGoBy C) := by
  obtain ⟨fS, fdS, mS, bS, GS⟩ := dS.ex
  refine F.ok scGoBy (fun vs H Q E h => ?_) (fun cdv A outer s H vs Q E hr h => ?_)
  · obtain ⟨A, g, t, i, rfl, _⟩ := h
    rfl
  · obtain ⟨B, g, t, i, rfl, gat, k⟩ := h
    obtain ⟨dx, hd⟩ := gat.obj
    refine ⟨_, pss_cons (ps_if (PW.pt (pw_or (pt_cmpR op_eq (pv 1) pe_int (nomark _)) (pw_or1 (pt_cmpR op_gt (pv 2) pe_int (nomark _))))) (pss_one (ps_ret (pe_gi rfl T.gOUT_OF_RANGE_gates))) pss_nil)
      (pss_cons (ps_if (PW.pt (pw_and (pt_val (pe_fld (pv 0) rfl)) (pw_and1 (pt_cmpR op_eq (pv 2) pe_int (nomark _))))) (pss_one (ps_ret (pe_gi rfl T.gLOCKED_IN))) pss_nil)
      (pss_cons (ps_if (pt_cmpR op_ge (pe_callB call_len_seq rfl T.len PySem.boot_len (pa_cons (pe_fld (pv 0) rfl) pa_nil)) (pe_gi rfl T.gMOST_KEPT) (nomark _)) (pss_one (ps_ret (pe_gi rfl T.gFULL))) pss_nil)
      (pss_cons (ps_fldaug (pv 0) pe_int in_add)
      (pss_cons (ps_expr (pe_bm PySem.F.plainAttrs_list PySem.F.slot_list_append PySem.F.type_list_append mt_append (pe_fld (pv 0) rfl) (pa_cons (pe_tup (pa_cons (pe_fld (pv 0) rfl) (pa_cons (pv 1) (pa_cons (pv 2) pa_nil)))) pa_nil)))
      (pss_cons (ps_if (pt_cmpR op_eq (pe_callB call_len_seq rfl T.len PySem.boot_len (pa_cons (pe_fld (pv 0) rfl) pa_nil)) pe_int (nomark _)) (pss_one (ps_expr (pe_meth0 (pv 0) G.cl mS GS hr bS .nil pass0))) pss_nil)
      (pss_one (ps_ret pe_int))))))), ?_⟩
    have bad : (t = 0 ∨ 1 < i) → Q (.int (-22)) H := fun c => k H B g [] (-22) (by unfold Km259.Gate.does; dsimp only; rw [if_pos c]) (gat.stepSame (Same.refl H))
    have isIn : ¬ (t = 0 ∨ 1 < i) → (g.locked = true ∧ i = 1) → Q (.int (-13)) H := fun c c2 => k H B g [] (-13) (by unfold Km259.Gate.does; dsimp only; rw [if_neg c, if_pos c2]) (gat.stepSame (Same.refl H))
    have full : ¬ (t = 0 ∨ 1 < i) → ¬ (g.locked = true ∧ i = 1) → 64 ≤ g.kept.length → Q (.int (-28)) H := fun c c2 c3 => k H B g [] (-28) (by unfold Km259.Gate.does; dsimp only; rw [if_neg c, if_neg c2, if_pos c3]) (gat.stepSame (Same.refl H))
    have hkl : (B.ks.map V.ref).length = g.kept.length := by rw [List.length_map, gat.kt.len]
    -- what is behind the two first tests
    have third : ¬ (t = 0 ∨ 1 < i) → ¬ (g.locked = true ∧ i = 1) → tSeq (tIfS (tTest (tOp (rI0 fun i j => .bl (decide (j ≤ i))) (tCB (fun xs H Q => ∃ p ys, xs = [.ref p] ∧ (SqL K H p ys ∨ SqT K H p ys) ∧ Q (.int ys.length) H) (tCons (tFld K (tVar 0) "kept") tNil)) (tC (.int 64)))) (tRet (tC (.int (-28)))) tNext)
        (tSeq (sFldAug K (tVar 0) (tC (.int 1)) L2.rAdd "last") (tSeq (tDrop (tBM K "list" rAppend (tFld K (tVar 0) "kept") (tCons (tTup (tCons (tFld K (tVar 0) "last") (tCons (tVar 1) (tCons (tVar 2) tNil)))) tNil)))
        (tSeq (tIfS (tTest (tOp rEq (tCB (fun xs H Q => ∃ p ys, xs = [.ref p] ∧ (SqL K H p ys ∨ SqT K H p ys) ∧ Q (.int ys.length) H) (tCons (tFld K (tVar 0) "kept") tNil)) (tC (.int 1)))) (tDrop (tMeth C "send_first" (spSendFirst C) [] E0 (tVar 0) tNil)) tNext) (tRet (tC (.int 0))))))
        { nx := fun _ H' => Q .non H', rt := Q } [some (.ref B.a), some (.int (t : Int)), some (.int (i : Int))] H := by
      intro c c2
      refine ⟨_, rfl, B.a, C, dx, _, _, rfl, hd, G.cl, G.kept, gFs_kept _ _ _ _ _ _ _, B.lk, _, rfl, .inl (SqL.of gat.kl), _, _, rfl, rfl, _, rfl, ?_⟩
      rw [hkl]
      refine iteD (fun c3 => full c c2 (by omega)) (fun c3 => ?_)
      have hf : g.kept.length < 64 := by omega
      refine ⟨_, rfl, B.a, C, dx, _, _, rfl, hd, G.cl, G.last, gFs_last _ _ _ _ _ _ _, _, _, rfl, rfl, dx, _, hd, (by show 7 < 1000; decide), ?_⟩
      have S : GStep C H B (upd H B.a (.ins C dx (putF "last" (.int ((g.last : Int) + 1)) (gR g B)))) { B with tk := B.tk } { g with last := g.last + 1 } [] := by
        rw [gFs_put_last]
        exact gat.put (g' := { g with last := g.last + 1 }) hd rfl gat.tick
      have g1 := S.ok
      obtain ⟨dy, hd1⟩ := g1.obj
      refine ⟨_, rfl, B.a, C, dy, _, _, rfl, hd1, G.cl, G.kept, gFs_kept _ _ _ _ _ _ _, .inl ⟨rfl, _, SqL.of g1.kl⟩, _, rfl, B.a, C, dy, _, _, rfl, hd1, G.cl, G.last, gFs_last _ _ _ _ _ _ _, _, rfl, _, rfl, (by show 3 ≤ sizeLine; decide), fun q hq => ?_⟩
      refine ⟨B.lk, _, _, rfl, rfl, same_new (Same.refl _) hq _ _ g1.kl, (by rw [hkl]; exact small1000 (by omega)), ?_⟩
      have S2 := g1.more (x := ⟨g.last + 1, t, i⟩) hq hf
      have g2 := S2.ok
      obtain ⟨dz, hd2⟩ := g2.obj
      refine ⟨_, rfl, B.a, C, dz, _, _, rfl, hd2, G.cl, G.kept, gFs_kept _ _ _ _ _ _ _, B.lk, _, rfl, .inl (SqL.of g2.kl), rfl, _, rfl, ?_⟩
      have hkl2 : ((B.ks ++ [q]).map V.ref).length = g.kept.length + 1 := by
        rw [List.length_map, List.length_append, gat.kt.len]
        rfl
      rw [hkl2]
      refine iteI (fun c4 => ?_) (fun c4 => ?_)
      · have hnil : g.kept = [] := List.length_eq_zero_iff.mp (by omega)
        refine ⟨_, rfl, B.a, dz, _, rfl, hd2, gFs_no_send_first _ _ _ _ _ _ _, { B with ks := B.ks ++ [q] }, { g with last := g.last + 1, kept := g.kept ++ [⟨g.last + 1, t, i⟩] }, [], rfl, g2, (by simp), Nat.zero_le _, fun H3 A3 S3 => ?_⟩
        refine k H3 A3 _ _ 0 ?_ ((S.trans S2).trans S3)
        unfold Km259.Gate.does
        dsimp only
        rw [if_neg c, if_neg c2, if_neg (by omega), if_pos hnil]
        rfl
      · have hnil : ¬ g.kept = [] := fun z => c4 (by rw [z]; rfl)
        refine k _ { B with ks := B.ks ++ [q] } { g with last := g.last + 1, kept := g.kept ++ [⟨g.last + 1, t, i⟩] } [] 0 ?_ (S.trans S2)
        unfold Km259.Gate.does
        dsimp only
        rw [if_neg c, if_neg c2, if_neg (by omega), if_neg hnil]
    have second : ¬ (t = 0 ∨ 1 < i) → tSeq (tIfS (tAnd (tB (tFld K (tVar 0) "is_locked")) (tTest (tOp rEq (tVar 2) (tC (.int 1))))) (tRet (tC (.int (-13)))) tNext) (tSeq (tIfS (tTest (tOp (rI0 fun i j => .bl (decide (j ≤ i))) (tCB (fun xs H Q => ∃ p ys, xs = [.ref p] ∧ (SqL K H p ys ∨ SqT K H p ys) ∧ Q (.int ys.length) H) (tCons (tFld K (tVar 0) "kept") tNil)) (tC (.int 64)))) (tRet (tC (.int (-28)))) tNext)
        (tSeq (sFldAug K (tVar 0) (tC (.int 1)) L2.rAdd "last") (tSeq (tDrop (tBM K "list" rAppend (tFld K (tVar 0) "kept") (tCons (tTup (tCons (tFld K (tVar 0) "last") (tCons (tVar 1) (tCons (tVar 2) tNil)))) tNil)))
        (tSeq (tIfS (tTest (tOp rEq (tCB (fun xs H Q => ∃ p ys, xs = [.ref p] ∧ (SqL K H p ys ∨ SqT K H p ys) ∧ Q (.int ys.length) H) (tCons (tFld K (tVar 0) "kept") tNil)) (tC (.int 1)))) (tDrop (tMeth C "send_first" (spSendFirst C) [] E0 (tVar 0) tNil)) tNext) (tRet (tC (.int 0)))))))
        { nx := fun _ H' => Q .non H', rt := Q } [some (.ref B.a), some (.int (t : Int)), some (.int (i : Int))] H := by
      intro c
      refine ⟨_, rfl, B.a, C, dx, _, _, rfl, hd, G.cl, G.is_locked, gFs_is_locked _ _ _ _ _ _ _, _, rfl, ?_⟩
      refine ite2 (fun c2 => ?_) (fun c2 => third c fun z => c2 z.1)
      refine ⟨_, rfl, rfl, _, rfl, ?_⟩
      exact iteI (fun c3 => isIn c ⟨c2, by omega⟩) (fun c3 => third c fun z => by omega)
    refine ⟨_, rfl, rfl, _, rfl, ?_⟩
    refine iteI (fun c => iteT (bad (.inl (by omega)))) (fun c => ?_)
    refine ⟨_, rfl, _, _, rfl, rfl, _, rfl, ?_⟩
    exact iteD (fun c' => bad (.inr (by omega))) (fun c' => second (by omega))
/-! ### a message's effects -/
def gHad (g : Km259.Gate) (n : Nat) : Km259.Gate × List Km259.Told := match g.kept with
  | [] => (g, [])
  | p :: r => if p.number = n then ({ g with kept := r }, Km259.Gate.first { g with kept := r }) else (g, [])
def spTakeHad (C CM : Addr) : Sp := fun vs H Q _ => ∃ (A : GA) (g : Km259.Gate) (p : Addr) (m : Km259.Msg), vs = [.ref A.a, .ref p] ∧ GateAt C H A g [] ∧ MsgAt CM H p m ∧
  ∀ (H' : Hp) (A' : GA), GStep C H A H' A' (gHad g m.number).1 (gHad g m.number).2 → Q .non H'
theorem scTakeHad : FnScope ["self", "message"] ["self", "message"] (defScope sTakeHad) := ⟨rfl, rfl, rfl, by decide +kernel, rfl, by decide +kernel, by decide +kernel⟩
theorem cut_refs (k : Addr) (ks : List Addr) : cutV ((k :: ks).map V.ref) (some 1) none = ks.map V.ref := by
  unfold cutV
  have e : HT.sIx ((k :: ks).map V.ref).length 0 (some 1) = 1 := by
    have z := HT.sIx_nat ((k :: ks).map V.ref).length 0 1
    refine z.trans ?_
    rw [List.map_cons, List.length_cons]
    omega
  rw [e, HT.sIx_none, List.map_cons]
  show (ks.map V.ref).take _ = _
  rw [List.length_cons, Nat.add_sub_cancel, List.take_length]
theorem ok_takeHad {f : Addr} {fd : FuncData} (F : Fun K "take_had" "Gate.take_had" sTakeHad f fd) (T : Txt K mg) (G : GateT K mg C) (M : MsgT K mg CM) (dS : Mth P w K mg base C "send_first" 4 ["self"] (spSendFirst C)) : FnOk P w K mg base CX0 5 f fd ["self", "message"] (spTakeHad C CM) := by
  obtain ⟨fS, fdS, mS, bS, GS⟩ := dS.ex
  refine F.ok scTakeHad (fun vs H Q E h => ?_) (fun cdv A outer s H vs Q E hr h => ?_)
  · obtain ⟨A, g, p, m, rfl, _⟩ := h
    rfl
  · obtain ⟨B, g, mp, m, rfl, gat, hm, k⟩ := h
    obtain ⟨dx, hd⟩ := gat.obj
    refine ⟨_, pss_one (ps_if (PW.pt (pw_and (pt_cmpR (op_neD hr.units) (pe_fld (pv 0) rfl) (pe_lst pa_nil) (nomark _)) (pw_and1 (pt_cmpR op_eq (pe_ix ix_tup (pe_ix ix_list (pe_fld (pv 0) rfl) pe_int (fun _ _ => rfl)) pe_int (fun _ _ => rfl)) (pe_fld (pv 1) rfl) (nomark _)))))
        (pss_cons (ps_fld (pv 0) (pe_slice sl_list (pe_fld (pv 0) rfl) (po_some pe_int) po_none) rfl)
          (pss_one (ps_if (pt_cmpR (op_neD hr.units) (pe_fld (pv 0) rfl) (pe_lst pa_nil) (nomark _)) (pss_one (ps_expr (pe_meth0 (pv 0) G.cl mS GS hr bS .nil pass0))) pss_nil))) pss_nil), ?_⟩
    refine ⟨_, rfl, B.a, C, dx, _, _, rfl, hd, G.cl, G.kept, gFs_kept _ _ _ _ _ _ _, Nat.zero_le _, fun q0 hq0 => ?_⟩
    have s0 : Same H (upd H q0 (.lst [])) := same_new (Same.refl H) hq0
    have g0 := gat.same s0
    have S0 := gat.stepSame s0
    refine ⟨_, _, .lst (SqL.of g0.kl) (kept_dp g0.kt), .lst (SqL.of upd_same) .nil, passD_shaped _, nil_shaped, _, rfl, ?_⟩
    refine iteK (fun hx => ?_) (fun hx => ?_)
    · have ⟨p, r, ek⟩ : ∃ p r, g.kept = p :: r := by
        cases e : g.kept with
        | nil => exact absurd e hx
        | cons p r => exact ⟨p, r, rfl⟩
      have ⟨k0, ks, eks, hk0⟩ : ∃ k0 ks, B.ks = k0 :: ks ∧ KeptAt (upd H q0 (.lst [])) k0 p := by
        have z := g0.kt
        rw [ek] at z
        cases e : B.ks with
        | nil =>
          rw [e] at z
          exact z.elim
        | cons k0 ks =>
          rw [e] at z
          exact ⟨k0, ks, rfl, z.1⟩
      obtain ⟨dy, hd0⟩ := g0.obj
      obtain ⟨mz, md, hm0⟩ := hm
      refine ⟨_, rfl, B.a, C, dy, _, _, rfl, hd0, G.cl, G.kept, gFs_kept _ _ _ _ _ _ _, B.lk, _, _, .ref k0, rfl, rfl, SqL.of g0.kl, atI_nat (j := 0) (by rw [eks]; rfl), k0, _, _, _, rfl, rfl, SqT.of hk0, atI_nat (j := 0) rfl,
        _, rfl, mp, CM, md, _, _, rfl, s0 _ _ hm0, M.cl, M.number, mFs_number _ _ _ _ _ _, rfl, _, rfl, ?_⟩
      refine iteI (fun c => ?_) (fun c => ?_)
      · have eh : gHad g m.number = ({ g with kept := r }, Km259.Gate.first { g with kept := r }) := by
          unfold gHad
          rw [ek]
          show (if p.number = m.number then _ else _) = _
          rw [if_pos (by omega)]
        refine ⟨_, rfl, B.a, C, dy, _, _, rfl, hd0, G.cl, G.kept, gFs_kept _ _ _ _ _ _ _, 1, rfl, B.lk, _, rfl, SqL.of g0.kl, fun q1 hq1 => ?_⟩
        have s1 := same_new (o := .lst (cutV (B.ks.map V.ref) (some 1) none)) (Same.refl (upd H q0 (.lst []))) hq1
        refine ⟨_, rfl, B.a, C, dy, _, rfl, s1 _ _ hd0, G.cl, G.kept, (by show 7 < 1000; decide), ?_⟩
        have S1 : GStep C (upd H q0 (.lst [])) B (upd (upd (upd H q0 (.lst [])) q1 (.lst (cutV (B.ks.map V.ref) (some 1) none))) B.a (.ins C dy (putF "kept" (.ref q1) (gR g B)))) { B with lk := q1, ks := ks } { g with kept := r } [] := by
          rw [gFs_put_kept, eks, cut_refs]
          exact g0.rest hd0 hq1 eks ek
        have g1 := S1.ok
        obtain ⟨dz, hd1⟩ := g1.obj
        have S := S0.trans S1
        refine ⟨_, rfl, B.a, C, dz, _, _, rfl, hd1, G.cl, G.kept, gFs_kept _ _ _ _ _ _ _, Nat.zero_le _, fun q2 hq2 => ?_⟩
        have s2 := same_new (o := .lst []) (Same.refl (upd (upd (upd H q0 (.lst [])) q1 (.lst (cutV (B.ks.map V.ref) (some 1) none))) B.a (.ins C dy (putF "kept" (.ref q1) (gR g B))))) hq2
        have g2 := g1.same s2
        obtain ⟨du, hd2⟩ := g2.obj
        have S2 := S.trans (g1.stepSame s2)
        refine ⟨_, _, .lst (SqL.of g2.kl) (kept_dp g2.kt), .lst (SqL.of upd_same) .nil, passD_shaped _, nil_shaped, _, rfl, ?_⟩
        refine iteK (fun hy => ?_) (fun hy => ?_)
        · refine ⟨_, rfl, B.a, du, _, rfl, hd2, gFs_no_send_first _ _ _ _ _ _ _, { B with lk := q1, ks := ks }, { g with kept := r }, [], rfl, g2, hy, Nat.zero_le _, fun H3 A3 S3 => ?_⟩
          refine k H3 A3 ?_
          rw [eh]
          exact S2.trans S3
        · refine k _ { B with lk := q1, ks := ks } ?_
          rw [eh]
          have hy : r = [] := hy
          subst hy
          exact S2
      · have eh : gHad g m.number = (g, []) := by
          unfold gHad
          rw [ek]
          show (if p.number = m.number then _ else _) = _
          rw [if_neg (by omega)]
        refine k _ B ?_
        rw [eh]
        exact S0
    · refine iteF (k _ B ?_)
      have eh : gHad g m.number = (g, []) := by
        unfold gHad
        rw [hx]
      rw [eh]
      exact S0
end
end Cy

namespace Cy
open PySem PySem.Spec PyProof.Rows L2
section
variable {P : Program} {w : World} {K : PySem.W.Frag} {mg : Str → Option Value} {base : Heap} {C CM : Addr}
theorem one_ref {a b : Addr} (h : a = b) : [V.ref b] = [V.ref a] := by rw [h]
/-! ### take_lock -/
def gLock (g : Km259.Gate) (t : Nat) : Km259.Gate × List Km259.Told :=
  let h : Km259.Gate := if g.lock < t then { g with lock := t, locked := true } else g
  (h, (if g.lock < t then [.gLocks 1] else []) ++ (if t = h.lock ∧ h.locked = true then h.five else []))
def spTakeLock (C CM : Addr) : Sp := fun vs H Q _ => ∃ (A : GA) (g : Km259.Gate) (p : Addr) (m : Km259.Msg), vs = [.ref A.a, .ref p] ∧ GateAt C H A g [] ∧ MsgAt CM H p m ∧
  ∀ (H' : Hp) (A' : GA), GStep C H A H' A' (gLock g m.tag).1 (gLock g m.tag).2 → Q .non H'
theorem scTakeLock : FnScope ["self", "message"] ["self", "message"] (defScope sTakeLock) := ⟨rfl, rfl, rfl, by decide +kernel, rfl, by decide +kernel, by decide +kernel⟩
theorem ok_takeLock {f : Addr} {fd : FuncData} (F : Fun K "take_lock" "Gate.take_lock" sTakeLock f fd) (T : Txt K mg) (G : GateT K mg C) (M : MsgT K mg CM) (dS : Mth P w K mg base C "send_locked" 4 ["self"] (spSendLocked C)) (dL : Mth P w K mg base C "set_lock" 1 ["self", "on"] (spSetLock C)) : FnOk P w K mg base CX0 5 f fd ["self", "message"] (spTakeLock C CM) := by
  obtain ⟨fS, fdS, mS, bS, GS⟩ := dS.ex
  obtain ⟨fL, fdL, mL, bL, GL⟩ := dL.ex
  refine F.ok scTakeLock (fun vs H Q E h => ?_) (fun cdv A outer s H vs Q E hr h => ?_)
  · obtain ⟨A, g, p, m, rfl, _⟩ := h
    rfl
  · obtain ⟨B, g, mp, m, rfl, gat, hm, k⟩ := h
    obtain ⟨dx, hd⟩ := gat.obj
    have hr1 : Room 1 _ := hr.mono (by decide)
    refine ⟨_, pss_cons (ps_if (pt_cmpR op_gt (pe_fld (pv 1) rfl) (pe_fld (pv 0) rfl) (nomark _)) (pss_cons (ps_fld (pv 0) (pe_fld (pv 1) rfl) rfl) (pss_one (ps_expr (pe_meth (pv 0) G.cl mL GL hr1 bL .nil pass0 (pa_cons pe_bl pa_nil))))) pss_nil)
      (pss_one (ps_if (PW.pt (pw_and (pt_cmpR op_eq (pe_fld (pv 1) rfl) (pe_fld (pv 0) rfl) (nomark _)) (pw_and1 (pt_val (pe_fld (pv 0) rfl))))) (pss_one (ps_expr (pe_meth0 (pv 0) G.cl mS GS hr bS .nil pass0))) pss_nil)), ?_⟩
    have fin : ∀ (H1 : Hp) (B1 : GA) (h : Km259.Gate) (ths : List Km259.Told), GStep C H B H1 B1 h ths → MsgAt CM H1 mp m → ths.length ≤ 1000 → (∀ (H' : Hp) (A' : GA), GStep C H B H' A' h (ths ++ if m.tag = h.lock ∧ h.locked = true then h.five else []) → Q .non H') →
        tIfS (tAnd (tTest (tOp rEq (tFld K (tVar 1) "tag") (tFld K (tVar 0) "number"))) (tB (tFld K (tVar 0) "is_locked"))) (tDrop (tMeth C "send_locked" (spSendLocked C) [] E0 (tVar 0) tNil)) tNext { nx := fun _ H' => Q .non H', rt := Q } [some (.ref B.a), some (.ref mp)] H1 := by
      intro H1 B1 h ths S hm1 hl kk
      obtain ⟨dy, hd1⟩ := S.ok.obj
      rw [S.same] at hd1
      obtain ⟨mz, md, hm0⟩ := hm1
      refine ⟨_, rfl, mp, CM, md, _, _, rfl, hm0, M.cl, M.tag, mFs_tag _ _ _ _ _ _, _, rfl, B.a, C, dy, _, _, rfl, hd1, G.cl, G.number, gFs_number _ _ _ _ _ _ _, rfl, _, rfl, ?_⟩
      refine iteI (fun c => ?_) (fun c => ?_)
      · refine ⟨_, rfl, B.a, C, dy, _, _, rfl, hd1, G.cl, G.is_locked, gFs_is_locked _ _ _ _ _ _ _, _, rfl, ?_⟩
        refine ite2 (fun c2 => ?_) (fun c2 => ?_)
        · refine ⟨_, rfl, B.a, dy, _, rfl, hd1, gFs_no_send_locked _ _ _ _ _ _ _, B1, h, ths, one_ref S.same, S.ok, hl, fun H2 A2 S2 => ?_⟩
          refine kk H2 A2 ?_
          rw [if_pos ⟨by omega, c2⟩]
          exact S.trans S2
        · refine kk H1 B1 ?_
          rw [if_neg (fun z => c2 z.2), List.append_nil]
          exact S
      · refine iteF (kk H1 B1 ?_)
        rw [if_neg (fun z => c (by rw [z.1])), List.append_nil]
        exact S
    obtain ⟨mz, md, hm0⟩ := id hm
    refine ⟨_, rfl, mp, CM, md, _, _, rfl, hm0, M.cl, M.tag, mFs_tag _ _ _ _ _ _, _, rfl, B.a, C, dx, _, _, rfl, hd, G.cl, G.number, gFs_number _ _ _ _ _ _ _, _, _, rfl, rfl, _, rfl, ?_⟩
    refine iteD (fun c => ?_) (fun c => ?_)
    · have c1 : g.lock < m.tag := by omega
      refine ⟨_, rfl, mp, CM, md, _, _, rfl, hm0, M.cl, M.tag, mFs_tag _ _ _ _ _ _, _, rfl, B.a, C, dx, _, rfl, hd, G.cl, G.number, (by show 7 < 1000; decide), ?_⟩
      have S : GStep C H B (upd H B.a (.ins C dx (putF "number" (.int (m.tag : Int)) (gR g B)))) { B with tk := B.tk } { g with lock := m.tag } [] := by
        rw [gFs_put_number]
        exact gat.put (g' := { g with lock := m.tag }) hd rfl gat.tick
      have g1 := S.ok
      have hm1 := hm.step gat S
      obtain ⟨dy, hd1⟩ := g1.obj
      refine ⟨_, rfl, B.a, dy, _, rfl, hd1, gFs_no_set_lock _ _ _ _ _ _ _, B, { g with lock := m.tag }, [], true, rfl, g1, Nat.zero_le _, fun H2 A2 S2 => ?_⟩
      refine fin H2 A2 { g with lock := m.tag, locked := true } [.gLocks 1] (S.trans S2) (hm1.step g1 S2) (by decide) fun H' A' S3 => ?_
      refine k H' A' ?_
      unfold gLock
      rw [if_pos c1, if_pos c1]
      exact S3
    · have c1 : ¬ g.lock < m.tag := by omega
      refine fin H B g [] (gat.stepSame (Same.refl H)) hm (by decide) fun H' A' S3 => ?_
      refine k H' A' ?_
      unfold gLock
      rw [if_neg c1, if_neg c1]
      exact S3
/-! ### take_free -/
def gFree (g : Km259.Gate) (t : Nat) : Km259.Gate × List Km259.Told := if g.lock ≤ t then ({ g with lock := t, locked := false }, if g.locked then [.gLocks 0] else []) else (g, [])
def spTakeFree (C CM : Addr) : Sp := fun vs H Q _ => ∃ (A : GA) (g : Km259.Gate) (p : Addr) (m : Km259.Msg), vs = [.ref A.a, .ref p] ∧ GateAt C H A g [] ∧ MsgAt CM H p m ∧
  ∀ (H' : Hp) (A' : GA), GStep C H A H' A' (gFree g m.tag).1 (gFree g m.tag).2 → Q .non H'
theorem scTakeFree : FnScope ["self", "message"] ["self", "message"] (defScope sTakeFree) := ⟨rfl, rfl, rfl, by decide +kernel, rfl, by decide +kernel, by decide +kernel⟩
theorem ok_takeFree {f : Addr} {fd : FuncData} (F : Fun K "take_free" "Gate.take_free" sTakeFree f fd) (T : Txt K mg) (G : GateT K mg C) (M : MsgT K mg CM) (dL : Mth P w K mg base C "set_lock" 1 ["self", "on"] (spSetLock C)) : FnOk P w K mg base CX0 2 f fd ["self", "message"] (spTakeFree C CM) := by
  obtain ⟨fL, fdL, mL, bL, GL⟩ := dL.ex
  refine F.ok scTakeFree (fun vs H Q E h => ?_) (fun cdv A outer s H vs Q E hr h => ?_)
  · obtain ⟨A, g, p, m, rfl, _⟩ := h
    rfl
  · obtain ⟨B, g, mp, m, rfl, gat, hm, k⟩ := h
    obtain ⟨dx, hd⟩ := gat.obj
    refine ⟨_, pss_one (ps_if (pt_cmpR op_ge (pe_fld (pv 1) rfl) (pe_fld (pv 0) rfl) (nomark _)) (pss_cons (ps_fld (pv 0) (pe_fld (pv 1) rfl) rfl) (pss_one (ps_if (pt_val (pe_fld (pv 0) rfl)) (pss_one (ps_expr (pe_meth (pv 0) G.cl mL GL hr bL .nil pass0 (pa_cons pe_bl pa_nil)))) pss_nil))) pss_nil), ?_⟩
    obtain ⟨mz, md, hm0⟩ := id hm
    refine ⟨_, rfl, mp, CM, md, _, _, rfl, hm0, M.cl, M.tag, mFs_tag _ _ _ _ _ _, _, rfl, B.a, C, dx, _, _, rfl, hd, G.cl, G.number, gFs_number _ _ _ _ _ _ _, _, _, rfl, rfl, _, rfl, ?_⟩
    refine iteD (fun c => ?_) (fun c => ?_)
    · have c1 : g.lock ≤ m.tag := by omega
      refine ⟨_, rfl, mp, CM, md, _, _, rfl, hm0, M.cl, M.tag, mFs_tag _ _ _ _ _ _, _, rfl, B.a, C, dx, _, rfl, hd, G.cl, G.number, (by show 7 < 1000; decide), ?_⟩
      have S : GStep C H B (upd H B.a (.ins C dx (putF "number" (.int (m.tag : Int)) (gR g B)))) { B with tk := B.tk } { g with lock := m.tag } [] := by
        rw [gFs_put_number]
        exact gat.put (g' := { g with lock := m.tag }) hd rfl gat.tick
      have g1 := S.ok
      obtain ⟨dy, hd1⟩ := g1.obj
      refine ⟨_, rfl, B.a, C, dy, _, _, rfl, hd1, G.cl, G.is_locked, gFs_is_locked _ _ _ _ _ _ _, _, rfl, ?_⟩
      refine ite2 (fun c2 => ?_) (fun c2 => ?_)
      · have c2 : g.locked = true := c2
        refine ⟨_, rfl, B.a, dy, _, rfl, hd1, gFs_no_set_lock _ _ _ _ _ _ _, B, { g with lock := m.tag }, [], false, rfl, g1, Nat.zero_le _, fun H2 A2 S2 => ?_⟩
        refine k H2 A2 ?_
        unfold gFree
        rw [if_pos c1, c2]
        exact S.trans S2
      · have c2 : g.locked = false := by
          cases e : g.locked with
          | false => rfl
          | true => exact absurd e c2
        refine k _ B ?_
        unfold gFree
        rw [if_pos c1, c2]
        have e : ({ g with lock := m.tag, locked := false } : Km259.Gate) = { g with lock := m.tag } := by
          rw [← c2]
        show GStep C H B _ B ({ g with lock := m.tag, locked := false } : Km259.Gate) []
        rw [e]
        exact S
    · have c1 : ¬ g.lock ≤ m.tag := by omega
      refine k H B ?_
      unfold gFree
      rw [if_neg c1]
      exact gat.stepSame (Same.refl H)
/-! ### heard -/
def spGHeard (K : PySem.W.Frag) (C : Addr) : Sp := fun vs H Q _ => ∃ (A : GA) (g : Km259.Gate) (r : Addr) (l : List Nat), vs = [.ref A.a, .ref r] ∧ GateAt C H A g [] ∧ SqL K H r (iv l) ∧ (∀ b ∈ l, b < 256) ∧ GDoes C H A g (.gHeard l l.length) Q
theorem scGHeard : FnScope ["self", "row", "message"] ["self", "row"] (defScope sGHeard) := ⟨rfl, rfl, rfl, by decide +kernel, rfl, by decide +kernel, by decide +kernel⟩
theorem ok_gHeard {f : Addr} {fd : FuncData} (F : Fun K "heard" "Gate.heard" sGHeard f fd) (T : Txt K mg) (G : GateT K mg C) (M : MsgT K mg CM) (TG : Tup K mg "TO_GATE" [2, 4, 6]) (dM : Def P w K mg base "message_in" 4 ["row", "kinds"] (spMsgIn K CM))
    (dH : Mth P w K mg base C "take_had" 5 ["self", "message"] (spTakeHad C CM)) (dL : Mth P w K mg base C "take_lock" 5 ["self", "message"] (spTakeLock C CM)) (dF : Mth P w K mg base C "take_free" 2 ["self", "message"] (spTakeFree C CM)) :
    FnOk P w K mg base CX0 6 f fd ["self", "row"] (spGHeard K C) := by
  obtain ⟨fM, fdM, mM, kM, bM, GM⟩ := dM.ex
  obtain ⟨fH, fdH, mH, bH, GH⟩ := dH.ex
  obtain ⟨fL, fdL, mL, bL, GL⟩ := dL.ex
  obtain ⟨fF, fdF, mF, bF, GF⟩ := dF.ex
  obtain ⟨tg, mT, hT⟩ := TG.ex
  refine F.ok scGHeard (fun vs H Q E h => ?_) (fun cdv A outer s H vs Q E hr h => ?_)
  · obtain ⟨A, g, r, l, rfl, _⟩ := h
    rfl
  · obtain ⟨B, g, r, l, rfl, gat, hS, hb, k⟩ := h
    have hr4 : Room 4 _ := hr.mono (by decide)
    have hr2 : Room 2 _ := hr.mono (by decide)
    refine ⟨_, pss_cons (ps_set (i := 2) scGHeard.nd rfl (.inl rfl) (pe_call GM hr4 rfl mM kM bM .nil pass0 (pa_cons (pv 1) (pa_cons (pe_glob (v := .ref tg) rfl mT rfl) pa_nil))))
      (pss_cons (ps_if (PW.pt (pw_or (pt_cmpR op_isN (pv 2) pe_non (nomark _)) (pw_or1 (pt_cmpR op_ne (pe_fld (pv 2) rfl) (pe_fld (pv 0) rfl) (nomark _))))) (pss_one (ps_ret (pe_gi rfl T.gNOT_RIGHT_gates))) pss_nil)
      (pss_cons (ps_if (pt_cmpR op_eq (pe_fld (pv 2) rfl) (pe_gi rfl T.gHAD) (nomark _)) (pss_one (ps_expr (pe_meth (pv 0) G.cl mH GH hr bH .nil pass0 (pa_cons (pv 2) pa_nil))))
        (pss_one (ps_if (pt_cmpR op_eq (pe_fld (pv 2) rfl) (pe_gi rfl T.gLOCK) (nomark _)) (pss_one (ps_expr (pe_meth (pv 0) G.cl mL GL hr bL .nil pass0 (pa_cons (pv 2) pa_nil))))
          (pss_one (ps_expr (pe_meth (pv 0) G.cl mF GF hr2 bF .nil pass0 (pa_cons (pv 2) pa_nil)))))))
      (pss_one (ps_ret pe_int)))), ?_⟩
    refine ⟨_, rfl, r, tg, l, [2, 4, 6], rfl, hS, hT H, hb, (by decide), fun e H1 s1 => ?_, fun m e H1 p s1 hm => ?_⟩
    · refine ⟨_, rfl, rfl, _, rfl, ?_⟩
      refine iteD (fun _ => iteT ?_) (fun c => absurd rfl c)
      refine k H1 B g [] (-71) ?_ (gat.stepSame s1)
      unfold Km259.Gate.does
      dsimp only
      rw [e]
    · have gat1 := gat.same s1
      have S1 := gat.stepSame s1
      obtain ⟨dx, hd⟩ := gat1.obj
      obtain ⟨mz, md, hm0⟩ := id hm
      refine ⟨_, rfl, rfl, _, rfl, ?_⟩
      refine iteD (fun c => by cases c) (fun _ => ?_)
      refine ⟨_, rfl, p, CM, md, _, _, rfl, hm0, M.cl, M.gate, mFs_gate _ _ _ _ _ _, _, rfl, B.a, C, dx, _, _, rfl, hd, G.cl, G.me, gFs_me _ _ _ _ _ _ _, rfl, _, rfl, ?_⟩
      refine iteJ (fun c => ?_) (fun c => ?_)
      · refine k H1 B g [] (-71) ?_ S1
        unfold Km259.Gate.does
        dsimp only
        rw [e]
        dsimp only
        rw [if_pos (fun z => c (by rw [z]))]
      · have hg : ¬ m.gate ≠ g.me := fun z => z (by omega)
        have ed : ∀ (x : Km259.Gate × List Km259.Told), x = (if m.kind = 2 then gHad g m.number else if m.kind = 4 then gLock g m.tag else gFree g m.tag) → g.does (.gHeard l l.length) = (x.1, x.2, .num 0) := by
          intro x ex
          rw [ex]
          unfold Km259.Gate.does
          dsimp only
          rw [e]
          dsimp only
          rw [if_neg hg]
          by_cases k2 : m.kind = 2
          · rw [if_pos k2, if_pos k2]
            unfold gHad
            cases g.kept with
            | nil => rfl
            | cons q r =>
              dsimp only
              by_cases kq : q.number = m.number
              · rw [if_pos kq, if_pos kq]
              · rw [if_neg kq, if_neg kq]
          · rw [if_neg k2, if_neg k2]
            by_cases k4 : m.kind = 4
            · rw [if_pos k4, if_pos k4]
              rfl
            · rw [if_neg k4, if_neg k4]
              unfold gFree
              by_cases kl : g.lock ≤ m.tag
              · rw [if_pos kl, if_pos kl]
              · rw [if_neg kl, if_neg kl]
        refine ⟨_, rfl, p, CM, md, _, _, rfl, hm0, M.cl, M.kind, mFs_kind _ _ _ _ _ _, rfl, _, rfl, ?_⟩
        refine iteI (fun c2 => ?_) (fun c2 => ?_)
        · refine ⟨_, rfl, B.a, dx, _, rfl, hd, gFs_no_take_had _ _ _ _ _ _ _, _, rfl, B, g, p, m, rfl, gat1, hm, fun H' A' S => ?_⟩
          exact k H' A' _ _ 0 (ed _ (by rw [if_pos (by omega)])) (S1.trans S)
        · refine ⟨_, rfl, p, CM, md, _, _, rfl, hm0, M.cl, M.kind, mFs_kind _ _ _ _ _ _, rfl, _, rfl, ?_⟩
          refine iteI (fun c4 => ?_) (fun c4 => ?_)
          · refine ⟨_, rfl, B.a, dx, _, rfl, hd, gFs_no_take_lock _ _ _ _ _ _ _, _, rfl, B, g, p, m, rfl, gat1, hm, fun H' A' S => ?_⟩
            exact k H' A' _ _ 0 (ed _ (by rw [if_neg (by omega), if_pos (by omega)])) (S1.trans S)
          · refine ⟨_, rfl, B.a, dx, _, rfl, hd, gFs_no_take_free _ _ _ _ _ _ _, _, rfl, B, g, p, m, rfl, gat1, hm, fun H' A' S => ?_⟩
            exact k H' A' _ _ 0 (ed _ (by rw [if_neg (by omega), if_neg (by omega)])) (S1.trans S)
/-! ### tick, state -/
def spGTick (C : Addr) : Sp := fun vs H Q _ => ∃ (A : GA) (g : Km259.Gate), vs = [.ref A.a] ∧ GateAt C H A g [] ∧ GDoes C H A g .gTick Q
theorem scGTick : FnScope ["self"] ["self"] (defScope sGTick) := ⟨rfl, rfl, rfl, by decide +kernel, rfl, by decide +kernel, by decide +kernel⟩
theorem first_nil {g : Km259.Gate} (h : g.kept = []) : g.first = [] := by
  unfold Km259.Gate.first
  rw [h]
theorem first_len (g : Km259.Gate) : g.first.length ≤ 1 := by
  unfold Km259.Gate.first
  split <;> simp
theorem ok_gTick {f : Addr} {fd : FuncData} (F : Fun K "tick" "Gate.tick" sGTick f fd) (T : Txt K mg) (G : GateT K mg C) (dS : Mth P w K mg base C "send_first" 4 ["self"] (spSendFirst C)) (dL : Mth P w K mg base C "send_locked" 4 ["self"] (spSendLocked C)) :
    FnOk P w K mg base CX0 5 f fd ["self"] (spGTick C) := by
  obtain ⟨fS, fdS, mS, bS, GS⟩ := dS.ex
  obtain ⟨fL, fdL, mL, bL, GL⟩ := dL.ex
  refine F.ok scGTick (fun vs H Q E h => ?_) (fun cdv A outer s H vs Q E hr h => ?_)
  · obtain ⟨A, g, rfl, _⟩ := h
    rfl
  · obtain ⟨B, g, rfl, gat, k⟩ := h
    obtain ⟨dx, hd⟩ := gat.obj
    refine ⟨_, pss_cons (ps_fldaug (pv 0) pe_int in_add)
      (pss_cons (ps_if (pt_cmpR op_eq (pe_op op_mod (pe_fld (pv 0) rfl) (pe_gi rfl T.gEVERY_gates)) pe_int (nomark _))
        (pss_cons (ps_if (pt_cmpR (op_neD hr.units) (pe_fld (pv 0) rfl) (pe_lst pa_nil) (nomark _)) (pss_one (ps_expr (pe_meth0 (pv 0) G.cl mS GS hr bS .nil pass0))) pss_nil)
        (pss_one (ps_if (pt_val (pe_fld (pv 0) rfl)) (pss_one (ps_expr (pe_meth0 (pv 0) G.cl mL GL hr bL .nil pass0))) pss_nil))) pss_nil)
      (pss_one (ps_ret pe_int))), ?_⟩
    refine ⟨_, rfl, B.a, C, dx, _, _, rfl, hd, G.cl, G.ticks, gFs_ticks _ _ _ _ _ _ _, _, _, rfl, rfl, dx, _, hd, (by show 7 < 1000; decide), ?_⟩
    have ht : (B.tk + 1) % 10 = (g.ticks + 1) % 10 := by
      have := gat.tick
      omega
    have S : GStep C H B (upd H B.a (.ins C dx (putF "ticks" (.int ((B.tk : Int) + 1)) (gR g B)))) { B with tk := B.tk + 1 } { g with ticks := (g.ticks + 1) % 10 } [] := by
      rw [gFs_put_ticks]
      exact gat.put (g' := { g with ticks := (g.ticks + 1) % 10 }) (tk := B.tk + 1) hd rfl ht
    have g1 := S.ok
    obtain ⟨dy, hd1⟩ := g1.obj
    have ed : g.does .gTick = ({ g with ticks := (g.ticks + 1) % 10 }, if (g.ticks + 1) % 10 = 0 then g.first ++ (if g.locked then g.five else []) else [], .num 0) := rfl
    refine ⟨_, rfl, B.a, C, dy, _, _, rfl, hd1, G.cl, G.ticks, gFs_ticks _ _ _ _ _ _ _, _, _, rfl, rfl, (by show (0 : Int) < 10; decide), rfl, _, rfl, ?_⟩
    refine iteI (fun c => ?_) (fun c => ?_)
    · have c1 : (g.ticks + 1) % 10 = 0 := by
        have c : ((B.tk + 1 : Nat) : Int) % 10 = 0 := c
        omega
      rw [if_pos c1] at ed
      have fin : ∀ (H1 : Hp) (B1 : GA) (ths : List Km259.Told), GStep C H B H1 B1 { g with ticks := (g.ticks + 1) % 10 } ths → ths = g.first → tSeq (tIfS (tB (tFld K (tVar 0) "is_locked")) (tDrop (tMeth C "send_locked" (spSendLocked C) [] E0 (tVar 0) tNil)) tNext) (tRet (tC (.int 0))) { nx := fun _ H' => Q .non H', rt := Q } [some (.ref B.a)] H1 := by
        intro H1 B1 ths S1 e1
        obtain ⟨dz, hd2⟩ := S1.ok.obj
        rw [S1.same] at hd2
        refine ⟨_, rfl, B.a, C, dz, _, _, rfl, hd2, G.cl, G.is_locked, gFs_is_locked _ _ _ _ _ _ _, _, rfl, ?_⟩
        refine ite2 (fun c2 => ?_) (fun c2 => ?_)
        · have c2 : g.locked = true := c2
          refine ⟨_, rfl, B.a, dz, _, rfl, hd2, gFs_no_send_locked _ _ _ _ _ _ _, B1, _, ths, one_ref S1.same, S1.ok, (by rw [e1]; exact Nat.le_trans (first_len g) (by decide)), fun H2 A2 S2 => ?_⟩
          refine k H2 A2 _ _ 0 ed ?_
          rw [if_pos c2, ← e1]
          exact S1.trans S2
        · refine k H1 B1 _ _ 0 ed ?_
          rw [if_neg c2, List.append_nil, ← e1]
          exact S1
      refine ⟨_, rfl, B.a, C, dy, _, _, rfl, hd1, G.cl, G.kept, gFs_kept _ _ _ _ _ _ _, Nat.zero_le _, fun q hq => ?_⟩
      have s2 := same_new (o := .lst []) (Same.refl (upd H B.a (.ins C dx (putF "ticks" (.int ((B.tk : Int) + 1)) (gR g B))))) hq
      have g2 := g1.same s2
      have S2 := S.trans (g1.stepSame s2)
      obtain ⟨dz, hd2⟩ := g2.obj
      refine ⟨_, _, .lst (SqL.of g2.kl) (kept_dp g2.kt), .lst (SqL.of upd_same) .nil, passD_shaped _, nil_shaped, _, rfl, ?_⟩
      refine iteK (fun hx => ?_) (fun hx => ?_)
      · refine ⟨_, rfl, B.a, dz, _, rfl, hd2, gFs_no_send_first _ _ _ _ _ _ _, { B with tk := B.tk + 1 }, _, [], rfl, g2, hx, Nat.zero_le _, fun H3 A3 S3 => ?_⟩
        exact fin H3 A3 _ (S2.trans S3) rfl
      · exact fin _ _ [] S2 (first_nil hx).symm
    · have c1 : ¬ (g.ticks + 1) % 10 = 0 := by
        have c : ((B.tk + 1 : Nat) : Int) % 10 ≠ 0 := c
        omega
      rw [if_neg c1] at ed
      exact k _ _ _ _ 0 ed S
def spGState (C : Addr) : Sp := fun vs H Q _ => ∃ (A : GA) (g : Km259.Gate), vs = [.ref A.a] ∧ GateAt C H A g [] ∧
  ∀ (H' : Hp) (p : Addr), Same H H' → H p = none → H' p = some (.lst (iv [g.last, g.kept.length, g.lock, Km259.b2n g.locked])) → Q (.ref p) H'
theorem scGState : FnScope ["self"] ["self"] (defScope sGState) := ⟨rfl, rfl, rfl, by decide +kernel, rfl, by decide +kernel, by decide +kernel⟩
theorem ok_gState {f : Addr} {fd : FuncData} (F : Fun K "state" "Gate.state" sGState f fd) (T : Txt K mg) (G : GateT K mg C) : FnOk P w K mg base CX0 1 f fd ["self"] (spGState C) := by
  refine F.ok scGState (fun vs H Q E h => ?_) (fun cdv A outer s H vs Q E hr h => ?_)
  · obtain ⟨A, g, rfl, _⟩ := h
    rfl
  · obtain ⟨B, g, rfl, gat, k⟩ := h
    obtain ⟨dx, hd⟩ := gat.obj
    refine ⟨_, pss_one (ps_ret (pe_lst (pa_cons (pe_fld (pv 0) rfl) (pa_cons (pe_callB call_len_seq rfl T.len PySem.boot_len (pa_cons (pe_fld (pv 0) rfl) pa_nil)) (pa_cons (pe_fld (pv 0) rfl)
      (pa_cons (pe_callTy call_int1 rfl T.int PyProof.Rows.boot_int (pa_cons (pe_fld (pv 0) rfl) pa_nil)) pa_nil)))))), ?_⟩
    refine ⟨_, rfl, B.a, C, dx, _, _, rfl, hd, G.cl, G.last, gFs_last _ _ _ _ _ _ _, _, rfl, B.a, C, dx, _, _, rfl, hd, G.cl, G.kept, gFs_kept _ _ _ _ _ _ _, B.lk, _, rfl, .inl (SqL.of gat.kl), _, rfl, B.a, C, dx, _, _, rfl, hd, G.cl, G.number, gFs_number _ _ _ _ _ _ _,
      _, rfl, B.a, C, dx, _, _, rfl, hd, G.cl, G.is_locked, gFs_is_locked _ _ _ _ _ _ _, .inr ⟨g.locked, rfl, ?_⟩⟩
    refine ⟨(by show 4 ≤ sizeLine; decide), fun p hp => ?_⟩
    refine k _ p (same_new (Same.refl H) hp) hp ?_
    rw [upd_same, List.length_map, gat.kt.len, b2n_int]
    rfl
end
end Cy

namespace Cy
open PySem PySem.Spec PyProof.Rows L2
/-! ### two rules: xs[i] op= e reads a list's item; sorted of a dict's keys that are ints, however many -/
section
variable {X : Cx}
def rGetN (K : PySem.W.Frag) : V → V → Hp → VK → Prop := fun o i H Q => ∃ (p : Addr) (xs : List V) (j : Nat) (v : V), o = .ref p ∧ i = .int (j : Int) ∧ SqL K H p xs ∧ xs[j]? = some v ∧ Q v H
theorem get_listN : PGet X (rGetN X.K) := by
  intro pins s σ H o i ov iv' Q I ro ri h
  obtain ⟨p, xs, j, v, eo, ei, sq, at_, q⟩ := h
  subst eo ei
  cases ro
  obtain ⟨t, et⟩ := ri
  subst et
  obtain ⟨its, r, pl, small⟩ := I.list sq
  obtain ⟨u, eu, ru⟩ := Vals.get r at_
  have big := line63
  have lt : j < xs.length := (List.getElem?_eq_some_iff.mp at_).1
  refine wpAny_getItem_list pl.isList (Int.natCast_nonneg j) (by omega) (x := u) ?_ ⟨v, H, I, ru, q⟩
  rw [Int.toNat_natCast]
  simpa using eu
def rSortedKeys : List V → Hp → VK → Prop := fun vs H Q => ∃ (a : Addr) (kvs : List (L2.Key × V)) (ks : List Int), vs = [.ref a] ∧ Rd H a (.dK kvs) ∧ kvs.map (·.1) = ks.map Sum.inl ∧
  ∀ (ys : List Int) (p : Addr), ys.Perm ks → H p = none → Q (.ref p) (upd H p (.lst (ys.map V.int)))
theorem cr_sortedKeys (calm : X.calm = true) : CallR X (.builtin "sorted") rSortedKeys := by
  intro pins s σ H vs us Q I r h
  obtain ⟨d, kvs, ks, ev, rd, keys, q⟩ := h
  subst ev
  have eu := Vals.ref1 r
  subst eu
  obtain ⟨few, nosys, ents, rel, dict⟩ := dk_rd I.hok rd
  obtain ⟨ep, here⟩ := dict.dictAt
  have ek : ents.map (·.1) = ks.map Sum.inl := (KV.keys rel).symm.trans keys
  have el : ents.length = ks.length := by
    have z := congrArg List.length ek
    simpa using z
  have small : ents.length ≤ sizeLine := (KV.length rel) ▸ few
  refine Calls.call_function_entry (id := "sorted") PyProof.Rows.kind_sorted PyProof.Rows.plain_sorted PyProof.Rows.entry_sorted
    (PyProof.Rows.args_sorted1 _) ?_
  unfold Builtin.«sorted»
  refine wpAny_bind (m := checkCount "sorted" 1 1 _)
    (wpAny_pure ?_)
  refine wpAny_bind (PySem.W.kdu_collect (A := X.A.in1)
    (PySem.W.kdl_dict (knd := mixKind X.prog X.w) (kvs := ents) (ep := ep) nosys) (I.ok.hd calm) here small ?_)
  intro h1 tk acc kept got
  have al : acc.toList.length = ks.length := by
    rw [Array.length_toList, got.1]
    exact el
  have isI : IntsAre acc.toList ks := by
    refine ints_each al fun j v e => ?_
    obtain ⟨k, x, e1, e2⟩ := got.2 j v (by rw [← Array.getElem?_toList]; exact e)
    have e3 : (ents.map (·.1))[j]? = some k := by
      rw [List.getElem?_map, e1]
      rfl
    rw [ek, List.getElem?_map] at e3
    obtain ⟨y, e4, e5⟩ := Option.map_eq_some_iff.mp e3
    subst e5
    rcases keyIs_shape (show keyIs (Sum.inl y) v = true from e2) with ⟨n, t, en, ew⟩ | ⟨z, t, en, ew⟩
    · cases en
      exact ⟨y, t, e4, ew⟩
    · cases en
  have I1 : Inv X pins σ H { s with heap := h1, toks := tk } := I.kept kept
  have room : acc.toList.length ≤ sizeLine := by
    rw [al, ← el]
    exact small
  refine wpAny_bind (wpAny_newList ?_ room)
  have new : (h1.push (seqObj "list" acc.toList.toArray 0)).get? h1.objs.size = some (seqObj "list" acc.toList.toArray 0) :=
    Heap.get?_push_size _ rfl
  show wpAny _ _ _ _ _ { s with heap := h1.push (seqObj "list" acc.toList.toArray 0), toks := tk }
  refine wpAny_bind (wpAny_holding (wpAny_call_entry PyProof.Rows.slot_list_sort ⟨_, new, rfl⟩
    PyProof.Rows.entry_list_sort ?_ (PyProof.Rows.args_list_sort _)))
  refine SrtO.list_sort_ord SrtO.swo_int new room (fun two => SrtO.ints_sortable isI two) fun out o1 o2 => ?_
  refine ⟨_, rfl, ?_⟩
  obtain ⟨k1, k2, k3⟩ := SrtO.ints_out isI o1 o2
  obtain ⟨e9, at9⟩ := PyProof.Rows.sortedHeap_at (vs := acc.toList) (out := out.toArray) new
  have fits : ((out.map SrtO.iv).map V.int).length ≤ sizeLine := by
    rw [List.length_map, k2.length_eq, ← al]
    exact room
  refine wpAny_pure ⟨_, rfl, .ref h1.objs.size, upd H h1.objs.size (.lst ((out.map SrtO.iv).map V.int)), ?_, rfl,
    q _ _ k2 (I1.hok.fresh (Nat.le_refl _))⟩
  refine I1.laid (t' := tk) (fun b u e => ?_) (Nat.le_refl _) ⟨fits, out, e9, vals_of_ints k1, at9⟩
  have hb : b < h1.objs.size := Heap.lt_size e
  have old := PyProof.Rows.sortedHeap_old (vs := acc.toList) (out := out.toArray) (h := h1.push (seqObj "list" acc.toList.toArray 0)) (Nat.ne_of_lt hb)
    (by rw [size_push']; exact Nat.lt_succ_of_lt hb)
  exact old.trans (Heap.get?_push_of_some _ e)
end
def cFs (v1 v2 v3 v4 v5 v6 v7 v8 : V) : List (Str × V) := [("gates", v1), ("had", v2), ("balances", v3), ("number", v4), ("is_on", v5), ("confirmed", v6), ("ticks", v7), ("things", v8)]
theorem cFs_gates (v1 v2 v3 v4 v5 v6 v7 v8 : V) : (cFs v1 v2 v3 v4 v5 v6 v7 v8).lookup ("gates" : Str) = some v1 := lk_here
theorem cFs_had (v1 v2 v3 v4 v5 v6 v7 v8 : V) : (cFs v1 v2 v3 v4 v5 v6 v7 v8).lookup ("had" : Str) = some v2 := (lk_past (by decide +kernel)).trans lk_here
theorem cFs_balances (v1 v2 v3 v4 v5 v6 v7 v8 : V) : (cFs v1 v2 v3 v4 v5 v6 v7 v8).lookup ("balances" : Str) = some v3 := (lk_past (by decide +kernel)).trans ((lk_past (by decide +kernel)).trans lk_here)
theorem cFs_number (v1 v2 v3 v4 v5 v6 v7 v8 : V) : (cFs v1 v2 v3 v4 v5 v6 v7 v8).lookup ("number" : Str) = some v4 := (lk_past (by decide +kernel)).trans ((lk_past (by decide +kernel)).trans ((lk_past (by decide +kernel)).trans lk_here))
theorem cFs_is_on (v1 v2 v3 v4 v5 v6 v7 v8 : V) : (cFs v1 v2 v3 v4 v5 v6 v7 v8).lookup ("is_on" : Str) = some v5 := (lk_past (by decide +kernel)).trans ((lk_past (by decide +kernel)).trans ((lk_past (by decide +kernel)).trans ((lk_past (by decide +kernel)).trans lk_here)))
theorem cFs_confirmed (v1 v2 v3 v4 v5 v6 v7 v8 : V) : (cFs v1 v2 v3 v4 v5 v6 v7 v8).lookup ("confirmed" : Str) = some v6 := (lk_past (by decide +kernel)).trans ((lk_past (by decide +kernel)).trans ((lk_past (by decide +kernel)).trans ((lk_past (by decide +kernel)).trans ((lk_past (by decide +kernel)).trans lk_here))))
theorem cFs_ticks (v1 v2 v3 v4 v5 v6 v7 v8 : V) : (cFs v1 v2 v3 v4 v5 v6 v7 v8).lookup ("ticks" : Str) = some v7 := (lk_past (by decide +kernel)).trans ((lk_past (by decide +kernel)).trans ((lk_past (by decide +kernel)).trans ((lk_past (by decide +kernel)).trans ((lk_past (by decide +kernel)).trans ((lk_past (by decide +kernel)).trans lk_here)))))
theorem cFs_things (v1 v2 v3 v4 v5 v6 v7 v8 : V) : (cFs v1 v2 v3 v4 v5 v6 v7 v8).lookup ("things" : Str) = some v8 := (lk_past (by decide +kernel)).trans ((lk_past (by decide +kernel)).trans ((lk_past (by decide +kernel)).trans ((lk_past (by decide +kernel)).trans ((lk_past (by decide +kernel)).trans ((lk_past (by decide +kernel)).trans ((lk_past (by decide +kernel)).trans lk_here))))))
theorem cFs_no_send (v1 v2 v3 v4 v5 v6 v7 v8 : V) : (cFs v1 v2 v3 v4 v5 v6 v7 v8).lookup ("send" : Str) = none := (lk_past (by decide +kernel)).trans ((lk_past (by decide +kernel)).trans ((lk_past (by decide +kernel)).trans ((lk_past (by decide +kernel)).trans ((lk_past (by decide +kernel)).trans ((lk_past (by decide +kernel)).trans ((lk_past (by decide +kernel)).trans ((lk_past (by decide +kernel)).trans rfl)))))))
theorem cFs_no_tell (v1 v2 v3 v4 v5 v6 v7 v8 : V) : (cFs v1 v2 v3 v4 v5 v6 v7 v8).lookup ("tell" : Str) = none := (lk_past (by decide +kernel)).trans ((lk_past (by decide +kernel)).trans ((lk_past (by decide +kernel)).trans ((lk_past (by decide +kernel)).trans ((lk_past (by decide +kernel)).trans ((lk_past (by decide +kernel)).trans ((lk_past (by decide +kernel)).trans ((lk_past (by decide +kernel)).trans rfl)))))))
theorem cFs_no_send_all (v1 v2 v3 v4 v5 v6 v7 v8 : V) : (cFs v1 v2 v3 v4 v5 v6 v7 v8).lookup ("send_all" : Str) = none := (lk_past (by decide +kernel)).trans ((lk_past (by decide +kernel)).trans ((lk_past (by decide +kernel)).trans ((lk_past (by decide +kernel)).trans ((lk_past (by decide +kernel)).trans ((lk_past (by decide +kernel)).trans ((lk_past (by decide +kernel)).trans ((lk_past (by decide +kernel)).trans rfl)))))))
theorem cFs_no_lock (v1 v2 v3 v4 v5 v6 v7 v8 : V) : (cFs v1 v2 v3 v4 v5 v6 v7 v8).lookup ("lock" : Str) = none := (lk_past (by decide +kernel)).trans ((lk_past (by decide +kernel)).trans ((lk_past (by decide +kernel)).trans ((lk_past (by decide +kernel)).trans ((lk_past (by decide +kernel)).trans ((lk_past (by decide +kernel)).trans ((lk_past (by decide +kernel)).trans ((lk_past (by decide +kernel)).trans rfl)))))))
theorem cFs_no_free (v1 v2 v3 v4 v5 v6 v7 v8 : V) : (cFs v1 v2 v3 v4 v5 v6 v7 v8).lookup ("free" : Str) = none := (lk_past (by decide +kernel)).trans ((lk_past (by decide +kernel)).trans ((lk_past (by decide +kernel)).trans ((lk_past (by decide +kernel)).trans ((lk_past (by decide +kernel)).trans ((lk_past (by decide +kernel)).trans ((lk_past (by decide +kernel)).trans ((lk_past (by decide +kernel)).trans rfl)))))))
theorem cFs_no_many_within (v1 v2 v3 v4 v5 v6 v7 v8 : V) : (cFs v1 v2 v3 v4 v5 v6 v7 v8).lookup ("many_within" : Str) = none := (lk_past (by decide +kernel)).trans ((lk_past (by decide +kernel)).trans ((lk_past (by decide +kernel)).trans ((lk_past (by decide +kernel)).trans ((lk_past (by decide +kernel)).trans ((lk_past (by decide +kernel)).trans ((lk_past (by decide +kernel)).trans ((lk_past (by decide +kernel)).trans rfl)))))))
theorem cFs_no_is_clear (v1 v2 v3 v4 v5 v6 v7 v8 : V) : (cFs v1 v2 v3 v4 v5 v6 v7 v8).lookup ("is_clear" : Str) = none := (lk_past (by decide +kernel)).trans ((lk_past (by decide +kernel)).trans ((lk_past (by decide +kernel)).trans ((lk_past (by decide +kernel)).trans ((lk_past (by decide +kernel)).trans ((lk_past (by decide +kernel)).trans ((lk_past (by decide +kernel)).trans ((lk_past (by decide +kernel)).trans rfl)))))))
theorem cFs_no_fire (v1 v2 v3 v4 v5 v6 v7 v8 : V) : (cFs v1 v2 v3 v4 v5 v6 v7 v8).lookup ("fire" : Str) = none := (lk_past (by decide +kernel)).trans ((lk_past (by decide +kernel)).trans ((lk_past (by decide +kernel)).trans ((lk_past (by decide +kernel)).trans ((lk_past (by decide +kernel)).trans ((lk_past (by decide +kernel)).trans ((lk_past (by decide +kernel)).trans ((lk_past (by decide +kernel)).trans rfl)))))))
theorem cFs_no_count (v1 v2 v3 v4 v5 v6 v7 v8 : V) : (cFs v1 v2 v3 v4 v5 v6 v7 v8).lookup ("count" : Str) = none := (lk_past (by decide +kernel)).trans ((lk_past (by decide +kernel)).trans ((lk_past (by decide +kernel)).trans ((lk_past (by decide +kernel)).trans ((lk_past (by decide +kernel)).trans ((lk_past (by decide +kernel)).trans ((lk_past (by decide +kernel)).trans ((lk_past (by decide +kernel)).trans rfl)))))))
theorem cFs_no_take_pass (v1 v2 v3 v4 v5 v6 v7 v8 : V) : (cFs v1 v2 v3 v4 v5 v6 v7 v8).lookup ("take_pass" : Str) = none := (lk_past (by decide +kernel)).trans ((lk_past (by decide +kernel)).trans ((lk_past (by decide +kernel)).trans ((lk_past (by decide +kernel)).trans ((lk_past (by decide +kernel)).trans ((lk_past (by decide +kernel)).trans ((lk_past (by decide +kernel)).trans ((lk_past (by decide +kernel)).trans rfl)))))))
theorem cFs_no_take_locked (v1 v2 v3 v4 v5 v6 v7 v8 : V) : (cFs v1 v2 v3 v4 v5 v6 v7 v8).lookup ("take_locked" : Str) = none := (lk_past (by decide +kernel)).trans ((lk_past (by decide +kernel)).trans ((lk_past (by decide +kernel)).trans ((lk_past (by decide +kernel)).trans ((lk_past (by decide +kernel)).trans ((lk_past (by decide +kernel)).trans ((lk_past (by decide +kernel)).trans ((lk_past (by decide +kernel)).trans rfl)))))))
theorem cFs_no_heard (v1 v2 v3 v4 v5 v6 v7 v8 : V) : (cFs v1 v2 v3 v4 v5 v6 v7 v8).lookup ("heard" : Str) = none := (lk_past (by decide +kernel)).trans ((lk_past (by decide +kernel)).trans ((lk_past (by decide +kernel)).trans ((lk_past (by decide +kernel)).trans ((lk_past (by decide +kernel)).trans ((lk_past (by decide +kernel)).trans ((lk_past (by decide +kernel)).trans ((lk_past (by decide +kernel)).trans rfl)))))))
theorem cFs_no_tick (v1 v2 v3 v4 v5 v6 v7 v8 : V) : (cFs v1 v2 v3 v4 v5 v6 v7 v8).lookup ("tick" : Str) = none := (lk_past (by decide +kernel)).trans ((lk_past (by decide +kernel)).trans ((lk_past (by decide +kernel)).trans ((lk_past (by decide +kernel)).trans ((lk_past (by decide +kernel)).trans ((lk_past (by decide +kernel)).trans ((lk_past (by decide +kernel)).trans ((lk_past (by decide +kernel)).trans rfl)))))))
theorem cFs_no_state (v1 v2 v3 v4 v5 v6 v7 v8 : V) : (cFs v1 v2 v3 v4 v5 v6 v7 v8).lookup ("state" : Str) = none := (lk_past (by decide +kernel)).trans ((lk_past (by decide +kernel)).trans ((lk_past (by decide +kernel)).trans ((lk_past (by decide +kernel)).trans ((lk_past (by decide +kernel)).trans ((lk_past (by decide +kernel)).trans ((lk_past (by decide +kernel)).trans ((lk_past (by decide +kernel)).trans rfl)))))))
theorem cFs_put_gates (v1 v2 v3 v4 v5 v6 v7 v8 x : V) : putF "gates" x (cFs v1 v2 v3 v4 v5 v6 v7 v8) = cFs x v2 v3 v4 v5 v6 v7 v8 := put_here
theorem cFs_put_had (v1 v2 v3 v4 v5 v6 v7 v8 x : V) : putF "had" x (cFs v1 v2 v3 v4 v5 v6 v7 v8) = cFs v1 x v3 v4 v5 v6 v7 v8 := (put_past (by decide +kernel)).trans (congrArg _ put_here)
theorem cFs_put_balances (v1 v2 v3 v4 v5 v6 v7 v8 x : V) : putF "balances" x (cFs v1 v2 v3 v4 v5 v6 v7 v8) = cFs v1 v2 x v4 v5 v6 v7 v8 := (put_past (by decide +kernel)).trans (congrArg _ ((put_past (by decide +kernel)).trans (congrArg _ put_here)))
theorem cFs_put_number (v1 v2 v3 v4 v5 v6 v7 v8 x : V) : putF "number" x (cFs v1 v2 v3 v4 v5 v6 v7 v8) = cFs v1 v2 v3 x v5 v6 v7 v8 := (put_past (by decide +kernel)).trans (congrArg _ ((put_past (by decide +kernel)).trans (congrArg _ ((put_past (by decide +kernel)).trans (congrArg _ put_here)))))
theorem cFs_put_is_on (v1 v2 v3 v4 v5 v6 v7 v8 x : V) : putF "is_on" x (cFs v1 v2 v3 v4 v5 v6 v7 v8) = cFs v1 v2 v3 v4 x v6 v7 v8 := (put_past (by decide +kernel)).trans (congrArg _ ((put_past (by decide +kernel)).trans (congrArg _ ((put_past (by decide +kernel)).trans (congrArg _ ((put_past (by decide +kernel)).trans (congrArg _ put_here)))))))
theorem cFs_put_confirmed (v1 v2 v3 v4 v5 v6 v7 v8 x : V) : putF "confirmed" x (cFs v1 v2 v3 v4 v5 v6 v7 v8) = cFs v1 v2 v3 v4 v5 x v7 v8 := (put_past (by decide +kernel)).trans (congrArg _ ((put_past (by decide +kernel)).trans (congrArg _ ((put_past (by decide +kernel)).trans (congrArg _ ((put_past (by decide +kernel)).trans (congrArg _ ((put_past (by decide +kernel)).trans (congrArg _ put_here)))))))))
theorem cFs_put_ticks (v1 v2 v3 v4 v5 v6 v7 v8 x : V) : putF "ticks" x (cFs v1 v2 v3 v4 v5 v6 v7 v8) = cFs v1 v2 v3 v4 v5 v6 x v8 := (put_past (by decide +kernel)).trans (congrArg _ ((put_past (by decide +kernel)).trans (congrArg _ ((put_past (by decide +kernel)).trans (congrArg _ ((put_past (by decide +kernel)).trans (congrArg _ ((put_past (by decide +kernel)).trans (congrArg _ ((put_past (by decide +kernel)).trans (congrArg _ put_here)))))))))))
theorem cFs_put_things (v1 v2 v3 v4 v5 v6 v7 v8 x : V) : putF "things" x (cFs v1 v2 v3 v4 v5 v6 v7 v8) = cFs v1 v2 v3 v4 v5 v6 v7 x := (put_past (by decide +kernel)).trans (congrArg _ ((put_past (by decide +kernel)).trans (congrArg _ ((put_past (by decide +kernel)).trans (congrArg _ ((put_past (by decide +kernel)).trans (congrArg _ ((put_past (by decide +kernel)).trans (congrArg _ ((put_past (by decide +kernel)).trans (congrArg _ ((put_past (by decide +kernel)).trans (congrArg _ put_here)))))))))))))
theorem cFs_new (v1 v2 v3 v4 v5 v6 v7 v8 : V) : putF "things" v8 (putF "ticks" v7 (putF "confirmed" v6 (putF "is_on" v5 (putF "number" v4 (putF "balances" v3 (putF "had" v2 (putF "gates" v1 []))))))) = cFs v1 v2 v3 v4 v5 v6 v7 v8 := by
  have e1 : putF "had" v2 ([("gates", v1)] : List (Str × V)) = ([("gates", v1), ("had", v2)] : List (Str × V)) := put_new (by show ("had" : Str) ∉ (["gates"] : List Str); decide +kernel)
  have e2 : putF "balances" v3 ([("gates", v1), ("had", v2)] : List (Str × V)) = ([("gates", v1), ("had", v2), ("balances", v3)] : List (Str × V)) := put_new (by show ("balances" : Str) ∉ (["gates", "had"] : List Str); decide +kernel)
  have e3 : putF "number" v4 ([("gates", v1), ("had", v2), ("balances", v3)] : List (Str × V)) = ([("gates", v1), ("had", v2), ("balances", v3), ("number", v4)] : List (Str × V)) := put_new (by show ("number" : Str) ∉ (["gates", "had", "balances"] : List Str); decide +kernel)
  have e4 : putF "is_on" v5 ([("gates", v1), ("had", v2), ("balances", v3), ("number", v4)] : List (Str × V)) = ([("gates", v1), ("had", v2), ("balances", v3), ("number", v4), ("is_on", v5)] : List (Str × V)) := put_new (by show ("is_on" : Str) ∉ (["gates", "had", "balances", "number"] : List Str); decide +kernel)
  have e5 : putF "confirmed" v6 ([("gates", v1), ("had", v2), ("balances", v3), ("number", v4), ("is_on", v5)] : List (Str × V)) = ([("gates", v1), ("had", v2), ("balances", v3), ("number", v4), ("is_on", v5), ("confirmed", v6)] : List (Str × V)) := put_new (by show ("confirmed" : Str) ∉ (["gates", "had", "balances", "number", "is_on"] : List Str); decide +kernel)
  have e6 : putF "ticks" v7 ([("gates", v1), ("had", v2), ("balances", v3), ("number", v4), ("is_on", v5), ("confirmed", v6)] : List (Str × V)) = ([("gates", v1), ("had", v2), ("balances", v3), ("number", v4), ("is_on", v5), ("confirmed", v6), ("ticks", v7)] : List (Str × V)) := put_new (by show ("ticks" : Str) ∉ (["gates", "had", "balances", "number", "is_on", "confirmed"] : List Str); decide +kernel)
  have e7 : putF "things" v8 ([("gates", v1), ("had", v2), ("balances", v3), ("number", v4), ("is_on", v5), ("confirmed", v6), ("ticks", v7)] : List (Str × V)) = ([("gates", v1), ("had", v2), ("balances", v3), ("number", v4), ("is_on", v5), ("confirmed", v6), ("ticks", v7), ("things", v8)] : List (Str × V)) := put_new (by show ("things" : Str) ∉ (["gates", "had", "balances", "number", "is_on", "confirmed", "ticks"] : List Str); decide +kernel)
  show putF "things" v8 (putF "ticks" v7 (putF "confirmed" v6 (putF "is_on" v5 (putF "number" v4 (putF "balances" v3 (putF "had" v2 (([("gates", v1)] : List (Str × V))))))))) = _
  rw [e1, e2, e3, e4, e5, e6, e7]
  rfl
/-! ### balances as a dict -/
def kvs (L : List (Nat × Int)) : List (L2.Key × V) := L.map fun (p : Nat × Int) => ((Sum.inl (p.1 : Int) : L2.Key), V.int p.2)
theorem key_nat {a b : Nat} : ((Sum.inl (a : Int) : L2.Key) = Sum.inl (b : Int)) ↔ a = b := ⟨fun e => by have := Sum.inl.inj e; omega, fun e => by rw [e]⟩
theorem valV_kvs (t : Nat) : ∀ L : List (Nat × Int), valV (kvs L) (Sum.inl (t : Int)) = (valOf L t).map V.int
  | [] => rfl
  | p :: r => by
    by_cases e : p.1 = t
    · rw [valOf_pos e]
      exact valV_pos (p := ((Sum.inl (p.1 : Int) : L2.Key), V.int p.2)) (key_nat.mpr e)
    · rw [valOf_neg e, ← valV_kvs t r]
      exact valV_neg (p := ((Sum.inl (p.1 : Int) : L2.Key), V.int p.2)) (fun z => e (key_nat.mp z))
theorem putK_kvs (L : List (Nat × Int)) (t : Nat) (v : Int) : putK (kvs L) (Sum.inl (t : Int)) (.int v) = kvs (putL L t v) := by
  unfold putK putL
  have ea : ((kvs L).any fun kv => decide (kv.1 = (Sum.inl (t : Int) : L2.Key))) = L.any fun p => decide (p.1 = t) := by
    unfold kvs
    rw [List.any_map]
    congr 1
    funext p
    exact decide_eq_decide.mpr key_nat
  rw [ea]
  split
  · unfold kvs
    rw [List.map_map, List.map_map]
    apply List.map_congr_left
    intro p _
    show (if (Sum.inl (p.1 : Int) : L2.Key) = Sum.inl (t : Int) then ((Sum.inl (p.1 : Int) : L2.Key), V.int v) else ((Sum.inl (p.1 : Int) : L2.Key), V.int p.2)) = ((Sum.inl ((if p.1 = t then (p.1, v) else p).1 : Int) : L2.Key), V.int (if p.1 = t then (p.1, v) else p).2)
    by_cases e : p.1 = t
    · rw [if_pos (key_nat.mpr e), if_pos e]
    · rw [if_neg (fun z => e (key_nat.mp z)), if_neg e]
  · unfold kvs
    rw [List.map_append]
    rfl
theorem dropK_kvs (L : List (Nat × Int)) (t : Nat) : dropK (kvs L) (Sum.inl (t : Int)) = kvs (dropL L t) := by
  unfold dropK dropL kvs
  rw [List.filter_map]
  congr 1
  apply List.filter_congr
  intro p _
  show decide ((Sum.inl (p.1 : Int) : L2.Key) ≠ Sum.inl (t : Int)) = (p.1 != t)
  by_cases e : p.1 = t
  · have z : ¬ ((Sum.inl (p.1 : Int) : L2.Key) ≠ Sum.inl (t : Int)) := fun z => z (key_nat.mpr e)
    rw [decide_eq_false z]
    simp [e]
  · have z : (Sum.inl (p.1 : Int) : L2.Key) ≠ Sum.inl (t : Int) := fun z => e (key_nat.mp z)
    rw [decide_eq_true z]
    simp [e]
theorem keys_kvs (L : List (Nat × Int)) : (kvs L).map (·.1) = (L.map fun p => (p.1 : Int)).map Sum.inl := by
  unfold kvs
  rw [List.map_map, List.map_map]
  rfl
theorem kvs_len (L : List (Nat × Int)) : (kvs L).length = L.length := List.length_map _
def ov : Option Nat → V
  | none => .non
  | some n => .int (n : Int)
/-! ### a centre in the heap -/
structure CA where
  a : Addr
  lh : Addr
  db : Addr
  lc : Addr
  lt : Addr
  tk : Nat
  L : List (Nat × Int)
  ts : List Addr
def CA.fp (A : CA) : List Addr := A.a :: A.lh :: A.db :: A.lc :: A.lt :: A.ts
abbrev cR (c : Km259.Centre) (A : CA) : List (Str × V) := cFs (.int (c.had.length : Int)) (.ref A.lh) (.ref A.db) (.int (c.lock : Int)) (.bl c.on) (.ref A.lc) (.int (A.tk : Int)) (.ref A.lt)
structure CentreAt (C : Addr) (H : Hp) (A : CA) (c : Km259.Centre) (ths : List Km259.Told) : Prop where
  obj : ∃ dx, H A.a = some (.ins C dx (cR c A))
  tick : A.tk % 10 = c.ticks
  hl : H A.lh = some (.lst (iv c.had))
  bd : H A.db = some (.dK (kvs A.L))
  bp : A.L.Perm c.balance
  cl : H A.lc = some (.lst (c.confirmed.map ov))
  tl : H A.lt = some (.lst (A.ts.map V.ref))
  tt : Two (ThingAt H) A.ts ths
  ok : COk c
  n1 : A.lh ≠ A.lc
  n2 : A.lh ≠ A.lt
  n3 : A.lc ≠ A.lt
  n4 : ∀ t ∈ A.ts, t ≠ A.lh ∧ t ≠ A.lc ∧ t ≠ A.lt
structure CStep (C : Addr) (H : Hp) (A : CA) (H' : Hp) (A' : CA) (c' : Km259.Centre) (ths' : List Km259.Told) : Prop where
  same : A'.a = A.a
  ok : CentreAt C H' A' c' ths'
  gr : Gr A.fp H A'.fp H'
theorem CStep.trans {C : Addr} {H H1 H2 : Hp} {A A1 A2 : CA} {g1 g2 : Km259.Centre} {t1 t2 : List Km259.Told} (x : CStep C H A H1 A1 g1 t1) (y : CStep C H1 A1 H2 A2 g2 t2) : CStep C H A H2 A2 g2 t2 :=
  ⟨y.same.trans x.same, y.ok, x.gr.trans y.gr⟩
theorem cp_a (A : CA) : A.a ∈ A.fp := List.mem_cons_self ..
theorem cp_lh (A : CA) : A.lh ∈ A.fp := List.mem_cons_of_mem _ (List.mem_cons_self ..)
theorem cp_db (A : CA) : A.db ∈ A.fp := List.mem_cons_of_mem _ (List.mem_cons_of_mem _ (List.mem_cons_self ..))
theorem cp_lc (A : CA) : A.lc ∈ A.fp := List.mem_cons_of_mem _ (List.mem_cons_of_mem _ (List.mem_cons_of_mem _ (List.mem_cons_self ..)))
theorem cp_lt (A : CA) : A.lt ∈ A.fp := List.mem_cons_of_mem _ (List.mem_cons_of_mem _ (List.mem_cons_of_mem _ (List.mem_cons_of_mem _ (List.mem_cons_self ..))))
theorem cp_ts {A : CA} {k : Addr} (h : k ∈ A.ts) : k ∈ A.fp := List.mem_cons_of_mem _ (List.mem_cons_of_mem _ (List.mem_cons_of_mem _ (List.mem_cons_of_mem _ (List.mem_cons_of_mem _ h))))
theorem cp_cases {A : CA} {b : Addr} (h : b ∈ A.fp) : b = A.a ∨ b = A.lh ∨ b = A.db ∨ b = A.lc ∨ b = A.lt ∨ b ∈ A.ts := by
  rcases List.mem_cons.mp h with h | h
  · exact .inl h
  rcases List.mem_cons.mp h with h | h
  · exact .inr (.inl h)
  rcases List.mem_cons.mp h with h | h
  · exact .inr (.inr (.inl h))
  rcases List.mem_cons.mp h with h | h
  · exact .inr (.inr (.inr (.inl h)))
  rcases List.mem_cons.mp h with h | h
  · exact .inr (.inr (.inr (.inr (.inl h))))
  · exact .inr (.inr (.inr (.inr (.inr h))))
section
variable {C : Addr} {H H' : Hp} {A : CA} {c : Km259.Centre} {ths : List Km259.Told}
theorem CentreAt.tracked (G : CentreAt C H A c ths) : ∀ b ∈ A.fp, ∃ o, H b = some o := by
  intro b hb
  rcases cp_cases hb with rfl | rfl | rfl | rfl | rfl | h
  · obtain ⟨dx, e⟩ := G.obj
    exact ⟨_, e⟩
  · exact ⟨_, G.hl⟩
  · exact ⟨_, G.bd⟩
  · exact ⟨_, G.cl⟩
  · exact ⟨_, G.tl⟩
  · obtain ⟨y, e⟩ := G.tt.mem h
    exact ⟨_, e⟩
theorem CentreAt.fresh (G : CentreAt C H A c ths) {p : Addr} (hp : H p = none) : p ∉ A.fp := fun h => by
  obtain ⟨o, e⟩ := G.tracked p h
  rw [hp] at e
  cases e
theorem CentreAt.kept (G : CentreAt C H A c ths) (s : ∀ b ∈ A.fp, ∀ o, H b = some o → H' b = some o) : CentreAt C H' A c ths where
  obj := by
    obtain ⟨dx, e⟩ := G.obj
    exact ⟨dx, s _ (cp_a A) _ e⟩
  tick := G.tick
  hl := s _ (cp_lh A) _ G.hl
  bd := s _ (cp_db A) _ G.bd
  bp := G.bp
  cl := s _ (cp_lc A) _ G.cl
  tl := s _ (cp_lt A) _ G.tl
  tt := G.tt.mono fun k hk p e => s _ (cp_ts hk) _ e
  ok := G.ok
  n1 := G.n1
  n2 := G.n2
  n3 := G.n3
  n4 := G.n4
theorem CentreAt.same (G : CentreAt C H A c ths) (s : Same H H') : CentreAt C H' A c ths := G.kept fun b _ o e => s b o e
theorem CentreAt.stepSame (G : CentreAt C H A c ths) (s : Same H H') : CStep C H A H' A c ths := ⟨rfl, G.same s, Gr.same s⟩
/-- a thing is told -/
theorem CentreAt.push (G : CentreAt C H A c ths) (s : Same H H') {p : Addr} {x : Km259.Told} (hp : H p = none) (e : ThingAt H' p x) : CStep C H A (upd H' A.lt (.lst (A.ts.map V.ref ++ [.ref p]))) { A with ts := A.ts ++ [p] } c (ths ++ [x]) := by
  have G' := G.same s
  have np := G.fresh hp
  refine ⟨rfl, ⟨?_, G.tick, ?_, ?_, G.bp, ?_, ?_, ?_, G.ok, G.n1, G.n2, G.n3, ?_⟩, ⟨?_, ?_⟩⟩
  · obtain ⟨dx, e1⟩ := G'.obj
    exact ⟨dx, (upd_ne (ne_of e1 G'.tl (by intro z; cases z))).trans e1⟩
  · exact (upd_ne G.n2).trans G'.hl
  · exact (upd_ne (ne_of G'.bd G'.tl (by intro z; cases z))).trans G'.bd
  · exact (upd_ne G.n3).trans G'.cl
  · show upd H' A.lt (.lst (A.ts.map V.ref ++ [.ref p])) A.lt = some (.lst ((A.ts ++ [p]).map V.ref))
    rw [upd_same, List.map_append]
    rfl
  · refine Two.snoc (G'.tt.mono fun k hk q e1 => (upd_ne (G.n4 k hk).2.2).trans e1) ?_
    exact (upd_ne (ne_mem np (cp_lt A))).trans e
  · intro t ht
    rcases List.mem_append.mp ht with ht | ht
    · exact G.n4 t ht
    · have : t = p := by simpa using ht
      rw [this]
      exact ⟨ne_mem np (cp_lh A), ne_mem np (cp_lc A), ne_mem np (cp_lt A)⟩
  · intro b hb
    rcases cp_cases hb with h | h | h | h | h | h
    · exact .inl (h ▸ cp_a A)
    · exact .inl (h ▸ cp_lh A)
    · exact .inl (h ▸ cp_db A)
    · exact .inl (h ▸ cp_lc A)
    · exact .inl (h ▸ cp_lt A)
    · rcases List.mem_append.mp h with h | h
      · exact .inl (cp_ts h)
      · have : b = p := by simpa using h
        rw [this]
        exact .inr hp
  · intro b o hb eb
    rw [upd_ne (ne_mem hb (cp_lt A))]
    exact s b o eb
/-- its numbers change -/
theorem CentreAt.put (G : CentreAt C H A c ths) {dx : Addr} (hd : H A.a = some (.ins C dx (cR c A))) {c' : Km259.Centre} {tk : Nat} (e1 : c'.had = c.had) (e2 : c'.balance = c.balance) (e3 : c'.confirmed = c.confirmed) (ht : tk % 10 = c'.ticks) :
    CStep C H A (upd H A.a (.ins C dx (cR c' { A with tk := tk }))) { A with tk := tk } c' ths := by
  refine ⟨rfl, ⟨⟨dx, upd_same⟩, ht, ?_, ?_, ?_, ?_, ?_, ?_, ?_, G.n1, G.n2, G.n3, G.n4⟩, ⟨fun b hb => .inl hb, ?_⟩⟩
  · rw [e1]
    exact (upd_ne (ne_of G.hl hd (by intro z; cases z))).trans G.hl
  · exact (upd_ne (ne_of G.bd hd (by intro z; cases z))).trans G.bd
  · rw [e2]
    exact G.bp
  · rw [e3]
    exact (upd_ne (ne_of G.cl hd (by intro z; cases z))).trans G.cl
  · exact (upd_ne (ne_of G.tl hd (by intro z; cases z))).trans G.tl
  · exact G.tt.mono fun k hk q e1 => (upd_ne (ne_of e1 hd (by intro z; cases z))).trans e1
  · exact ⟨by rw [e1, e3]; exact G.ok.len, by rw [e1]; exact G.ok.lo, by rw [e1]; exact G.ok.hi, by rw [e2]; exact G.ok.nd, by rw [e2]; exact G.ok.nz, by rw [e2]; exact G.ok.few⟩
  · intro b o hb eb
    rw [upd_ne (ne_mem hb (cp_a A))]
    exact eb
/-- no gate confirmed: a new list at p -/
theorem CentreAt.none (G : CentreAt C H A c ths) {dx p : Addr} (hd : H A.a = some (.ins C dx (cR c A))) (s : Same H H') (hp : H p = .none) (e : H' p = some (.lst ((c.had.map fun _ => (Option.none : Option Nat)).map ov))) :
    CStep C H A (upd H' A.a (.ins C dx (cR { c with confirmed := c.had.map fun _ => Option.none } { A with lc := p }))) { A with lc := p } { c with confirmed := c.had.map fun _ => Option.none } ths := by
  have G' := G.same s
  have hd' := s _ _ hd
  have np := G.fresh hp
  refine ⟨rfl, ⟨⟨dx, upd_same⟩, G.tick, ?_, ?_, G.bp, ?_, ?_, ?_, ?_, ?_, G.n2, ?_, ?_⟩, ⟨?_, ?_⟩⟩
  · exact (upd_ne (ne_of G'.hl hd' (by intro z; cases z))).trans G'.hl
  · exact (upd_ne (ne_of G'.bd hd' (by intro z; cases z))).trans G'.bd
  · exact (upd_ne (ne_mem np (cp_a A))).trans e
  · exact (upd_ne (ne_of G'.tl hd' (by intro z; cases z))).trans G'.tl
  · exact G'.tt.mono fun k hk q e1 => (upd_ne (ne_of e1 hd' (by intro z; cases z))).trans e1
  · exact ⟨by simp, G.ok.lo, G.ok.hi, G.ok.nd, G.ok.nz, G.ok.few⟩
  · exact (ne_mem np (cp_lh A)).symm
  · exact ne_mem np (cp_lt A)
  · intro t ht
    exact ⟨(G.n4 t ht).1, (ne_mem np (cp_ts ht)).symm, (G.n4 t ht).2.2⟩
  · intro b hb
    rcases cp_cases hb with h | h | h | h | h | h
    · exact .inl (h ▸ cp_a A)
    · exact .inl (h ▸ cp_lh A)
    · exact .inl (h ▸ cp_db A)
    · exact .inr (by rw [h]; exact hp)
    · exact .inl (h ▸ cp_lt A)
    · exact .inl (cp_ts h)
  · intro b o hb eb
    rw [upd_ne (ne_mem hb (cp_a A))]
    exact s b o eb
theorem CentreAt.setHad (G : CentreAt C H A c ths) {had : List Nat} (hl : had.length = c.had.length) : CStep C H A (upd H A.lh (.lst (iv had))) A { c with had := had } ths := by
  refine ⟨rfl, ⟨?_, G.tick, upd_same, ?_, G.bp, ?_, ?_, ?_, ?_, G.n1, G.n2, G.n3, G.n4⟩, ⟨fun b hb => .inl hb, ?_⟩⟩
  · obtain ⟨dx, e1⟩ := G.obj
    refine ⟨dx, (upd_ne (ne_of e1 G.hl (by intro z; cases z))).trans (e1.trans ?_)⟩
    show some (HO.ins C dx (cFs (.int (c.had.length : Int)) _ _ _ _ _ _ _)) = some (HO.ins C dx (cFs (.int (had.length : Int)) _ _ _ _ _ _ _))
    rw [hl]
  · exact (upd_ne (ne_of G.bd G.hl (by intro z; cases z))).trans G.bd
  · exact (upd_ne G.n1.symm).trans G.cl
  · exact (upd_ne G.n2.symm).trans G.tl
  · exact G.tt.mono fun k hk q e1 => (upd_ne (G.n4 k hk).1).trans e1
  · exact ⟨by show c.confirmed.length = had.length; rw [hl]; exact G.ok.len, by show 1 ≤ had.length; rw [hl]; exact G.ok.lo, by show had.length ≤ 8; rw [hl]; exact G.ok.hi, G.ok.nd, G.ok.nz, G.ok.few⟩
  · intro b o hb eb
    rw [upd_ne (ne_mem hb (cp_lh A))]
    exact eb
theorem CentreAt.setConf (G : CentreAt C H A c ths) {conf : List (Option Nat)} (hl : conf.length = c.confirmed.length) : CStep C H A (upd H A.lc (.lst (conf.map ov))) A { c with confirmed := conf } ths := by
  refine ⟨rfl, ⟨?_, G.tick, ?_, ?_, G.bp, upd_same, ?_, ?_, ?_, G.n1, G.n2, G.n3, G.n4⟩, ⟨fun b hb => .inl hb, ?_⟩⟩
  · obtain ⟨dx, e1⟩ := G.obj
    exact ⟨dx, (upd_ne (ne_of e1 G.cl (by intro z; cases z))).trans e1⟩
  · exact (upd_ne G.n1).trans G.hl
  · exact (upd_ne (ne_of G.bd G.cl (by intro z; cases z))).trans G.bd
  · exact (upd_ne G.n3.symm).trans G.tl
  · exact G.tt.mono fun k hk q e1 => (upd_ne (G.n4 k hk).2.1).trans e1
  · exact ⟨by show conf.length = c.had.length; rw [hl]; exact G.ok.len, G.ok.lo, G.ok.hi, G.ok.nd, G.ok.nz, G.ok.few⟩
  · intro b o hb eb
    rw [upd_ne (ne_mem hb (cp_lc A))]
    exact eb
theorem CentreAt.setBal (G : CentreAt C H A c ths) {L bal : List (Nat × Int)} (hp : L.Perm bal) (ho : COk { c with balance := bal }) : CStep C H A (upd H A.db (.dK (kvs L))) { A with L := L } { c with balance := bal } ths := by
  refine ⟨rfl, ⟨?_, G.tick, ?_, upd_same, hp, ?_, ?_, ?_, ho, G.n1, G.n2, G.n3, G.n4⟩, ⟨fun b hb => .inl hb, ?_⟩⟩
  · obtain ⟨dx, e1⟩ := G.obj
    exact ⟨dx, (upd_ne (ne_of e1 G.bd (by intro z; cases z))).trans e1⟩
  · exact (upd_ne (ne_of G.hl G.bd (by intro z; cases z))).trans G.hl
  · exact (upd_ne (ne_of G.cl G.bd (by intro z; cases z))).trans G.cl
  · exact (upd_ne (ne_of G.tl G.bd (by intro z; cases z))).trans G.tl
  · exact G.tt.mono fun k hk q e1 => (upd_ne (ne_of e1 G.bd (by intro z; cases z))).trans e1
  · intro b o hb eb
    rw [upd_ne (ne_mem hb (cp_db A))]
    exact eb
theorem CentreAt.quiet (G : CentreAt C H A c ths) {dx q : Addr} (hd : H A.a = some (.ins C dx (cR c A))) (hq : H q = .none) (s : ∀ b o, b ≠ A.a → H b = some o → H' b = some o) (ha : H' A.a = some (.ins C dx (cR c { A with lt := q, ts := [] }))) (eq : H' q = some (.lst [])) :
    CStep C H A H' { A with lt := q, ts := [] } c [] := by
  have np := G.fresh hq
  refine ⟨rfl, ⟨⟨dx, ha⟩, G.tick, ?_, ?_, G.bp, ?_, eq, trivial, G.ok, G.n1, ?_, ?_, ?_⟩, ⟨?_, ?_⟩⟩
  · exact s _ _ (ne_of G.hl hd (by intro z; cases z)) G.hl
  · exact s _ _ (ne_of G.bd hd (by intro z; cases z)) G.bd
  · exact s _ _ (ne_of G.cl hd (by intro z; cases z)) G.cl
  · exact (ne_mem np (cp_lh A)).symm
  · exact (ne_mem np (cp_lc A)).symm
  · intro t ht
    cases ht
  · intro b hb
    rcases cp_cases hb with h | h | h | h | h | h
    · exact .inl (h ▸ cp_a A)
    · exact .inl (h ▸ cp_lh A)
    · exact .inl (h ▸ cp_db A)
    · exact .inl (h ▸ cp_lc A)
    · exact .inr (by rw [h]; exact hq)
    · cases h
  · intro b o hb eb
    exact s b o (fun z => hb (z ▸ cp_a A)) eb
end
theorem MsgAt.notCentre {CM C : Addr} {H : Hp} {A : CA} {c : Km259.Centre} {ths : List Km259.Told} {p : Addr} {m : Km259.Msg} (M : MsgAt CM H p m) (G : CentreAt C H A c ths) : p ∉ A.fp := by
  obtain ⟨z, dm, hm⟩ := M
  obtain ⟨dx, hd⟩ := G.obj
  intro h
  rcases cp_cases h with h | h | h | h | h | h
  · rw [h, hd] at hm
    have e := (HO.ins.inj (Option.some.inj hm)).2.2
    have e2 := congrArg List.length e
    have e3 : (8 : Nat) = 6 := e2
    exact absurd e3 (by decide)
  · rw [h, G.hl] at hm
    cases hm
  · rw [h, G.bd] at hm
    cases hm
  · rw [h, G.cl] at hm
    cases hm
  · rw [h, G.tl] at hm
    cases hm
  · obtain ⟨y, e⟩ := G.tt.mem h
    have e : H p = _ := e
    rw [e] at hm
    cases hm
theorem MsgAt.cstep {CM C : Addr} {H H' : Hp} {A A' : CA} {c c' : Km259.Centre} {ths ths' : List Km259.Told} {p : Addr} {m : Km259.Msg} (M : MsgAt CM H p m) (G : CentreAt C H A c ths) (S : CStep C H A H' A' c' ths') : MsgAt CM H' p m := by
  have n := M.notCentre G
  obtain ⟨z, dm, hm⟩ := M
  exact ⟨z, dm, S.gr.keep _ _ n hm⟩
end Cy

namespace Cy
open PySem PySem.Spec PyProof.Rows L2
abbrev sCInit : Stmt := inClass (top 29) 0
abbrev sSend : Stmt := inClass (top 29) 1
abbrev sTell : Stmt := inClass (top 29) 2
abbrev sSendAll : Stmt := inClass (top 29) 3
abbrev sLock : Stmt := inClass (top 29) 4
abbrev sFree : Stmt := inClass (top 29) 5
abbrev sMany : Stmt := inClass (top 29) 6
abbrev sIsClear : Stmt := inClass (top 29) 7
abbrev sFire : Stmt := inClass (top 29) 8
structure CenT (K : PySem.W.Frag) (mg : Str → Option Value) (C : Addr) : Prop where
  cl : Cls K C
  g : mg "Centre" = some (.ref C)
  gates : NoAttr K C "gates"
  had : NoAttr K C "had"
  balances : NoAttr K C "balances"
  number : NoAttr K C "number"
  is_on : NoAttr K C "is_on"
  confirmed : NoAttr K C "confirmed"
  ticks : NoAttr K C "ticks"
  things : NoAttr K C "things"
theorem rep_flat (n : Nat) (v : V) : (List.replicate n [v]).flatten = List.replicate n v := by
  induction n with
  | zero => rfl
  | succ n ih =>
    rw [List.replicate_succ, List.replicate_succ, List.flatten_cons, ih]
    rfl
theorem map_const_rep {α : Type} (l : List α) : (l.map fun _ => (none : Option Nat)).map ov = List.replicate l.length V.non := by
  induction l with
  | nil => rfl
  | cons a r ih =>
    rw [List.map_cons, List.map_cons, ih, List.length_cons, List.replicate_succ]
    rfl
section
variable {P : Program} {w : World} {K : PySem.W.Frag} {mg : Str → Option Value} {base : Heap} {C CM : Addr}
/-! ### __init__ -/
def spCInit (C : Addr) : Sp := fun vs H Q _ => ∃ (p dx : Addr) (n : Nat), vs = [.ref p, .int (n : Int)] ∧ 1 ≤ n ∧ n ≤ 8 ∧ H p = some (.ins C dx []) ∧
  ∀ (H' : Hp) (A' : CA), A'.a = p → CentreAt C H' A' (Km259.centre0 n) [] → (∀ b ∈ A'.fp, b = p ∨ H b = none) → (∀ b o, b ≠ p → H b = some o → H' b = some o) → Q .non H'
theorem scCInit : FnScope ["self", "gates"] ["self", "gates"] (defScope sCInit) := ⟨rfl, rfl, rfl, by decide +kernel, rfl, by decide +kernel, by decide +kernel⟩
theorem ok_cInit {f : Addr} {fd : FuncData} (F : Fun K "__init__" "Centre.__init__" sCInit f fd) (T : Txt K mg) (G : CenT K mg C) : FnOk P w K mg base CX0 1 f fd ["self", "gates"] (spCInit C) := by
  refine F.ok scCInit (fun vs H Q E h => ?_) (fun cdv A outer s H vs Q E hr h => ?_)
  · obtain ⟨p, dx, n, rfl, _⟩ := h
    rfl
  · obtain ⟨p, dx, n, rfl, hn1, hn8, hp, k⟩ := h
    refine ⟨_, pss_cons (ps_fld (pv 0) (pv 1) rfl) (pss_cons (ps_fld (pv 0) (pe_op op_rep (pe_lst (pa_cons pe_int pa_nil)) (pv 1)) rfl) (pss_cons (ps_fld (pv 0) pe_dnewK rfl) (pss_cons (ps_fld (pv 0) pe_int rfl)
      (pss_cons (ps_fld (pv 0) pe_bl rfl) (pss_cons (ps_fld (pv 0) (pe_op op_rep (pe_lst (pa_cons pe_non pa_nil)) (pv 1)) rfl) (pss_cons (ps_fld (pv 0) pe_int rfl) (pss_one (ps_fld (pv 0) (pe_lst pa_nil) rfl)))))))), ?_⟩
    -- self.gates = gates
    refine ⟨_, rfl, _, rfl, p, C, dx, _, rfl, hp, G.cl, G.gates, (by show 0 < 1000; decide), ?_⟩
    -- self.had = [0] * gates
    refine ⟨(by show 1 ≤ sizeLine; decide), fun q0 hq0 => ?_⟩
    refine ⟨_, rfl, q0, _, _, rfl, rfl, upd_same, by omega, by omega, ?_, fun q1 hq1 => ?_⟩
    · rw [sizeLine_eq]
      show 1 * (n : Int).toNat ≤ _
      omega
    have a0 : p ≠ q0 := ne_of_none upd_same hq0
    have a1 : p ≠ q1 := ne_of_none ((upd_ne a0).trans upd_same) hq1
    have a01 : q0 ≠ q1 := ne_of_none upd_same hq1
    refine ⟨_, rfl, p, C, dx, _, rfl, (upd_ne a1).trans ((upd_ne a0).trans upd_same), G.cl, G.had, fw (pl (Nat.le_refl 0)), ?_⟩
    -- self.balances = {}
    intro q2 hq2
    have a2 : p ≠ q2 := ne_of_none upd_same hq2
    have a12 : q1 ≠ q2 := ne_of_none ((upd_ne a1.symm).trans upd_same) hq2
    have a02 : q0 ≠ q2 := ne_of_none ((upd_ne a0.symm).trans ((upd_ne a01).trans upd_same)) hq2
    refine ⟨_, rfl, p, C, dx, _, rfl, (upd_ne a2).trans upd_same, G.cl, G.balances, fw (pl (pl (Nat.le_refl 0))), ?_⟩
    refine ⟨_, rfl, p, C, dx, _, rfl, upd_same, G.cl, G.number, fw (pl (pl (pl (Nat.le_refl 0)))), ?_⟩
    refine ⟨_, rfl, p, C, dx, _, rfl, upd_same, G.cl, G.is_on, fw (pl (pl (pl (pl (Nat.le_refl 0))))), ?_⟩
    -- self.confirmed = [None] * gates
    refine ⟨(by show 1 ≤ sizeLine; decide), fun q3 hq3 => ?_⟩
    refine ⟨_, rfl, q3, _, _, rfl, rfl, upd_same, by omega, by omega, ?_, fun q4 hq4 => ?_⟩
    · rw [sizeLine_eq]
      show 1 * (n : Int).toNat ≤ _
      omega
    have a3 : p ≠ q3 := ne_of_none upd_same hq3
    have a4 : p ≠ q4 := ne_of_none ((upd_ne a3).trans upd_same) hq4
    have a34 : q3 ≠ q4 := ne_of_none upd_same hq4
    have h21 : ∀ x y z : HO, upd (upd (upd (upd (upd (upd (upd (upd H p x) q0 y) q1 (.lst (List.replicate (n : Int).toNat [V.int 0]).flatten)) p z) q2 (.dK [])) p z) p z) p z q1 = some (.lst (List.replicate (n : Int).toNat [V.int 0]).flatten) := fun x y z => by
      rw [upd_ne a1.symm, upd_ne a1.symm, upd_ne a1.symm, upd_ne a12, upd_ne a1.symm, upd_same]
    refine ⟨_, rfl, p, C, dx, _, rfl, (upd_ne a4).trans ((upd_ne a3).trans upd_same), G.cl, G.confirmed, fw (pl (pl (pl (pl (pl (Nat.le_refl 0)))))), ?_⟩
    refine ⟨_, rfl, p, C, dx, _, rfl, upd_same, G.cl, G.ticks, fw (pl (pl (pl (pl (pl (pl (Nat.le_refl 0))))))), ?_⟩
    refine ⟨Nat.zero_le _, fun q5 hq5 => ?_⟩
    have a5 : p ≠ q5 := ne_of_none upd_same hq5
    refine ⟨_, rfl, p, C, dx, _, rfl, (upd_ne a5).trans upd_same, G.cl, G.things, fw (pl (pl (pl (pl (pl (pl (pl (Nat.le_refl 0)))))))), ?_⟩
    -- who is new, who is apart
    have f0 : H q0 = none := by
      rw [upd_ne a0.symm] at hq0
      exact hq0
    have f1 : H q1 = none := by
      rw [upd_ne a01.symm, upd_ne a1.symm] at hq1
      exact hq1
    have f2 : H q2 = none := by
      rw [upd_ne a2.symm, upd_ne a12.symm, upd_ne a02.symm, upd_ne a2.symm] at hq2
      exact hq2
    have a13 : q1 ≠ q3 := by
      intro z
      rw [← z, upd_ne a1.symm, upd_ne a1.symm, upd_ne a1.symm, upd_ne a12, upd_ne a1.symm, upd_same] at hq3
      cases hq3
    have a23 : q2 ≠ q3 := by
      intro z
      rw [← z, upd_ne a2.symm, upd_ne a2.symm, upd_ne a2.symm, upd_same] at hq3
      cases hq3
    have a03 : q0 ≠ q3 := by
      intro z
      rw [← z, upd_ne a0.symm, upd_ne a0.symm, upd_ne a0.symm, upd_ne a02, upd_ne a0.symm, upd_ne a01, upd_same] at hq3
      cases hq3
    have f3 : H q3 = none := by
      rw [upd_ne a3.symm, upd_ne a3.symm, upd_ne a3.symm, upd_ne a23.symm, upd_ne a3.symm, upd_ne a13.symm, upd_ne a03.symm, upd_ne a3.symm] at hq3
      exact hq3
    have a14 : q1 ≠ q4 := by
      intro z
      rw [← z, upd_ne a13, upd_ne a1.symm, upd_ne a1.symm, upd_ne a1.symm, upd_ne a12, upd_ne a1.symm, upd_same] at hq4
      cases hq4
    have a24 : q2 ≠ q4 := by
      intro z
      rw [← z, upd_ne a23, upd_ne a2.symm, upd_ne a2.symm, upd_ne a2.symm, upd_same] at hq4
      cases hq4
    have a04 : q0 ≠ q4 := by
      intro z
      rw [← z, upd_ne a03, upd_ne a0.symm, upd_ne a0.symm, upd_ne a0.symm, upd_ne a02, upd_ne a0.symm, upd_ne a01, upd_same] at hq4
      cases hq4
    have f4 : H q4 = none := by
      rw [upd_ne a34.symm, upd_ne a4.symm, upd_ne a4.symm, upd_ne a4.symm, upd_ne a24.symm, upd_ne a4.symm, upd_ne a14.symm, upd_ne a04.symm, upd_ne a4.symm] at hq4
      exact hq4
    have a15 : q1 ≠ q5 := by
      intro z
      rw [← z, upd_ne a1.symm, upd_ne a1.symm, upd_ne a14, upd_ne a13, upd_ne a1.symm, upd_ne a1.symm, upd_ne a1.symm, upd_ne a12, upd_ne a1.symm, upd_same] at hq5
      cases hq5
    have a25 : q2 ≠ q5 := by
      intro z
      rw [← z, upd_ne a2.symm, upd_ne a2.symm, upd_ne a24, upd_ne a23, upd_ne a2.symm, upd_ne a2.symm, upd_ne a2.symm, upd_same] at hq5
      cases hq5
    have a45 : q4 ≠ q5 := by
      intro z
      rw [← z, upd_ne a4.symm, upd_ne a4.symm, upd_same] at hq5
      cases hq5
    have a35 : q3 ≠ q5 := by
      intro z
      rw [← z, upd_ne a3.symm, upd_ne a3.symm, upd_ne a34, upd_same] at hq5
      cases hq5
    have a05 : q0 ≠ q5 := by
      intro z
      rw [← z, upd_ne a0.symm, upd_ne a0.symm, upd_ne a04, upd_ne a03, upd_ne a0.symm, upd_ne a0.symm, upd_ne a0.symm, upd_ne a02, upd_ne a0.symm, upd_ne a01, upd_same] at hq5
      cases hq5
    have f5 : H q5 = none := by
      rw [upd_ne a5.symm, upd_ne a5.symm, upd_ne a45.symm, upd_ne a35.symm, upd_ne a5.symm, upd_ne a5.symm, upd_ne a5.symm, upd_ne a25.symm, upd_ne a5.symm, upd_ne a15.symm, upd_ne a05.symm, upd_ne a5.symm] at hq5
      exact hq5
    refine k _ ⟨p, q1, q2, q4, q5, 0, [], []⟩ rfl ⟨⟨dx, ?_⟩, rfl, ?_, ?_, List.Perm.refl _, ?_, ?_, trivial, centre0_ok hn1 hn8, a14, a15, a45, fun t ht => nomatch ht⟩ ?_ ?_
    · refine upd_same.trans (congrArg (fun z => some (HO.ins C dx z)) ((cFs_new _ _ _ _ _ _ _ _).trans ?_))
      show cFs (.int (n : Int)) _ _ _ _ _ _ _ = cFs (.int ((List.replicate n 0).length : Int)) _ _ _ _ _ _ _
      rw [List.length_replicate]
      rfl
    · show upd _ p _ q1 = _
      rw [upd_ne a1.symm, upd_ne a15, upd_ne a1.symm, upd_ne a1.symm, upd_ne a14, upd_ne a13, upd_ne a1.symm, upd_ne a1.symm, upd_ne a1.symm, upd_ne a12, upd_ne a1.symm, upd_same, rep_flat, Int.toNat_natCast]
      show some (HO.lst (List.replicate n (V.int 0))) = some (HO.lst (iv (List.replicate n 0)))
      unfold iv
      rw [List.map_replicate]
      rfl
    · show upd _ p _ q2 = _
      rw [upd_ne a2.symm, upd_ne a25, upd_ne a2.symm, upd_ne a2.symm, upd_ne a24, upd_ne a23, upd_ne a2.symm, upd_ne a2.symm, upd_ne a2.symm, upd_same]
      rfl
    · show upd _ p _ q4 = _
      rw [upd_ne a4.symm, upd_ne a45, upd_ne a4.symm, upd_ne a4.symm, upd_same, rep_flat, Int.toNat_natCast]
      show some (HO.lst (List.replicate n V.non)) = some (HO.lst ((List.replicate n (none : Option Nat)).map ov))
      rw [List.map_replicate]
      rfl
    · show upd _ p _ q5 = _
      rw [upd_ne a5.symm, upd_same]
      rfl
    · intro b hb
      rcases cp_cases hb with h | h | h | h | h | h
      · exact .inl h
      · exact .inr (by rw [h]; exact f1)
      · exact .inr (by rw [h]; exact f2)
      · exact .inr (by rw [h]; exact f4)
      · exact .inr (by rw [h]; exact f5)
      · cases h
    · intro b o nb e
      rw [upd_ne nb, upd_ne (ne_of_none e f5), upd_ne nb, upd_ne nb, upd_ne (ne_of_none e f4), upd_ne (ne_of_none e f3), upd_ne nb, upd_ne nb, upd_ne nb, upd_ne (ne_of_none e f2), upd_ne nb, upd_ne (ne_of_none e f1), upd_ne (ne_of_none e f0), upd_ne nb]
      exact e
/-! ### what it tells -/
def spSend (C : Addr) : Sp := fun vs H Q _ => ∃ (A : CA) (c : Km259.Centre) (ths : List Km259.Told) (k g n t : Nat), vs = [.ref A.a, .int (k : Int), .int (g : Int), .int (n : Int), .int (t : Int)] ∧ CentreAt C H A c ths ∧ ths.length ≤ 1000 ∧
  ∀ (H' : Hp) (A' : CA), CStep C H A H' A' c (ths ++ [.cSend g (Km259.Msg.bytes ⟨k, g, 0, n, t⟩)]) → Q .non H'
theorem scSend : FnScope ["self", "kind", "gate", "number", "tag"] ["self", "kind", "gate", "number", "tag"] (defScope sSend) := ⟨rfl, rfl, rfl, by decide +kernel, rfl, by decide +kernel, by decide +kernel⟩
theorem shown_cSend (g : Nat) (l : List Nat) : (Km259Neutral.shown (.cSend g l)).map V.int = [V.int 0, V.int (g : Int)] ++ iv l := by
  show V.int 0 :: V.int (g : Int) :: (Km259Neutral.nums l).map V.int = _
  rw [nums_iv]
  rfl
theorem cs_small {H : Hp} {A : CA} {c : Km259.Centre} {ths : List Km259.Told} (G : CentreAt C H A c ths) (h : ths.length ≤ 1000) : (A.ts.map V.ref).length < sizeLine := by
  rw [List.length_map, G.tt.len]
  exact small1000 h
theorem ok_send {f : Addr} {fd : FuncData} (F : Fun K "send" "Centre.send" sSend f fd) (T : Txt K mg) (G : CenT K mg C) (dW : Def P w K mg base "written" 3 ["kind", "gate", "going", "number", "tag"] spWritten) : FnOk P w K mg base CX0 4 f fd ["self", "kind", "gate", "number", "tag"] (spSend C) := by
  obtain ⟨fW, fdW, mW, kW, bW, GW⟩ := dW.ex
  refine F.ok scSend (fun vs H Q E h => ?_) (fun cdv A outer s H vs Q E hr h => ?_)
  · obtain ⟨A, c, ths, k, g, n, t, rfl, _⟩ := h
    rfl
  · obtain ⟨B, c, ths, kd, g, n, t, rfl, gat, hlen, k⟩ := h
    obtain ⟨dx, hd⟩ := gat.obj
    refine ⟨_, pss_one (ps_expr (pe_bm PySem.F.plainAttrs_list PySem.F.slot_list_append PySem.F.type_list_append mt_append (pe_fld (pv 0) rfl) (pa_cons (pe_op op_cat (pe_lst (pa_cons (pe_gi rfl T.gSENDS_centres) (pa_cons (pv 2) pa_nil)))
        (pe_call GW hr rfl mW kW bW .nil pass0 (pa_cons (pv 1) (pa_cons (pv 2) (pa_cons pe_int (pa_cons (pv 3) (pa_cons (pv 4) pa_nil))))))) pa_nil))), ?_⟩
    refine ⟨_, rfl, B.a, C, dx, _, _, rfl, hd, G.cl, G.things, cFs_things _ _ _ _ _ _ _ _, .inl ⟨rfl, _, SqL.of gat.tl⟩, _, rfl, (by show 2 ≤ sizeLine; decide), fun l hl => ?_⟩
    have s0 : Same H (upd H l (.lst [.int 0, .int (g : Int)])) := same_new (Same.refl H) hl
    refine ⟨_, rfl, _, rfl, _, rfl, _, rfl, kd, g, 0, n, t, rfl, fun H1 p1 s1 e0 e1 => ?_⟩
    refine ⟨l, p1, _, _, rfl, rfl, s1 l _ upd_same, e1, (by rw [iv_len, bytes_len]; exact sz (m := 18) (by simp) (by decide)), fun q hq => ?_⟩
    have s2 : Same H H1 := s0.trans s1
    have hq0 : H q = none := s2.free hq
    have s3 : Same H (upd H1 q (.lst ([V.int 0, V.int (g : Int)] ++ iv (Km259.Msg.bytes ⟨kd, g, 0, n, t⟩)))) := same_new s2 hq0
    refine ⟨B.lt, _, _, rfl, rfl, s3 _ _ gat.tl, cs_small gat hlen, ?_⟩
    refine k _ _ (gat.push s3 hq0 ?_)
    show upd H1 q _ q = _
    rw [upd_same, shown_cSend]
def spTell (C : Addr) : Sp := fun vs H Q _ => ∃ (A : CA) (c : Km259.Centre) (ths : List Km259.Told) (n : Nat), vs = [.ref A.a, .int (n : Int)] ∧ CentreAt C H A c ths ∧ ths.length ≤ 1000 ∧
  ∀ (H' : Hp) (A' : CA), CStep C H A H' A' c (ths ++ [.cTells n c.lock]) → Q .non H'
theorem scTell : FnScope ["self", "what"] ["self", "what"] (defScope sTell) := ⟨rfl, rfl, rfl, by decide +kernel, rfl, by decide +kernel, by decide +kernel⟩
theorem ok_tell {f : Addr} {fd : FuncData} (F : Fun K "tell" "Centre.tell" sTell f fd) (T : Txt K mg) (G : CenT K mg C) : FnOk P w K mg base CX0 1 f fd ["self", "what"] (spTell C) := by
  refine F.ok scTell (fun vs H Q E h => ?_) (fun cdv A outer s H vs Q E hr h => ?_)
  · obtain ⟨A, c, ths, n, rfl, _⟩ := h
    rfl
  · obtain ⟨B, c, ths, n, rfl, gat, hlen, k⟩ := h
    obtain ⟨dx, hd⟩ := gat.obj
    refine ⟨_, pss_one (ps_expr (pe_bm PySem.F.plainAttrs_list PySem.F.slot_list_append PySem.F.type_list_append mt_append (pe_fld (pv 0) rfl) (pa_cons (pe_lst (pa_cons (pe_gi rfl T.gTELLS) (pa_cons (pv 1) (pa_cons (pe_fld (pv 0) rfl) pa_nil)))) pa_nil))), ?_⟩
    refine ⟨_, rfl, B.a, C, dx, _, _, rfl, hd, G.cl, G.things, cFs_things _ _ _ _ _ _ _ _, .inl ⟨rfl, _, SqL.of gat.tl⟩, _, rfl, _, rfl, B.a, C, dx, _, _, rfl, hd, G.cl, G.number, cFs_number _ _ _ _ _ _ _ _, (by show 3 ≤ sizeLine; decide), fun q hq => ?_⟩
    have s3 := same_new (o := .lst [V.int 1, V.int (n : Int), V.int (c.lock : Int)]) (Same.refl H) hq
    refine ⟨B.lt, _, _, rfl, rfl, s3 _ _ gat.tl, cs_small gat hlen, ?_⟩
    refine k _ _ (gat.push s3 hq ?_)
    show upd H q _ q = _
    rw [upd_same]
    rfl
def spSendAll (C : Addr) : Sp := fun vs H Q _ => ∃ (A : CA) (c : Km259.Centre) (k : Nat), vs = [.ref A.a, .int (k : Int)] ∧ CentreAt C H A c [] ∧
  ∀ (H' : Hp) (A' : CA), CStep C H A H' A' c (Km259.toAll c k (List.range c.gates)) → Q .non H'
theorem scSendAll : FnScope ["self", "kind", "gate"] ["self", "kind"] (defScope sSendAll) := ⟨rfl, rfl, rfl, by decide +kernel, rfl, by decide +kernel, by decide +kernel⟩
theorem toAll_snoc (c : Km259.Centre) (k i : Nat) : Km259.toAll c k (List.range (i + 1)) = Km259.toAll c k (List.range i) ++ [.cSend i (Km259.Msg.bytes ⟨k, i, 0, 0, c.lock⟩)] := by
  unfold Km259.toAll
  rw [List.range_succ, List.map_append]
  rfl
theorem toAll_len (c : Km259.Centre) (k : Nat) (l : List Nat) : (Km259.toAll c k l).length = l.length := List.length_map _
theorem five_refs {a b : Addr} (h : a = b) (x y z u : V) : [V.ref b, x, y, z, u] = [V.ref a, x, y, z, u] := by rw [h]
theorem ok_sendAll {f : Addr} {fd : FuncData} (F : Fun K "send_all" "Centre.send_all" sSendAll f fd) (T : Txt K mg) (G : CenT K mg C) (dS : Mth P w K mg base C "send" 4 ["self", "kind", "gate", "number", "tag"] (spSend C)) : FnOk P w K mg base CX0 5 f fd ["self", "kind"] (spSendAll C) := by
  obtain ⟨fS, fdS, mS, bS, GS⟩ := dS.ex
  refine F.ok scSendAll (fun vs H Q E h => ?_) (fun cdv A outer s H vs Q E hr h => ?_)
  · obtain ⟨A, c, k, rfl, _⟩ := h
    rfl
  · obtain ⟨B, c, kd, rfl, gat, k⟩ := h
    obtain ⟨dx, hd⟩ := gat.obj
    refine ⟨_, pss_one (ps_for PassesOwn.never rfl (pi_range1 rfl T.range (pa_cons (pe_fld (pv 0) rfl) pa_nil)) (pg_name (i := 2) scSendAll.nd rfl (.inl rfl))
      (pss_one (ps_expr (pe_meth (pv 0) G.cl mS GS hr bS .nil pass0 (pa_cons (pv 1) (pa_cons (pv 2) (pa_cons pe_int (pa_cons (pe_fld (pv 0) rfl) pa_nil)))))))), ?_⟩
    have hi := gat.ok.hi
    refine ⟨_, rfl, B.a, C, dx, _, _, rfl, hd, G.cl, G.gates, cFs_gates _ _ _ _ _ _ _ _, (c.had.length : Int), rfl, by omega, by omega, ?_⟩
    rw [Int.toNat_natCast]
    refine for_range (n := c.had.length) (fun i σ H' => ∃ (v : Option V) (A' : CA), σ = [some (.ref B.a), some (.int (kd : Int)), v] ∧ CStep C H B H' A' c (Km259.toAll c kd (List.range i))) ⟨none, B, rfl, gat.stepSame (Same.refl H)⟩ ?_ ?_
    · rintro i σ H' hlt ⟨v, A', rfl, S⟩
      obtain ⟨dy, hd1⟩ := S.ok.obj
      rw [S.same] at hd1
      refine ⟨_, rfl, B.a, dy, _, rfl, hd1, cFs_no_send _ _ _ _ _ _ _ _, _, rfl, _, rfl, _, rfl, B.a, C, dy, _, _, rfl, hd1, G.cl, G.number, cFs_number _ _ _ _ _ _ _ _, A', c, _, kd, i, 0, c.lock, ?_, S.ok, ?_, fun H2 A2 S2 => ?_⟩
      · rw [S.same, Int.zero_add]
        rfl
      · rw [toAll_len, List.length_range]
        omega
      · refine ⟨some (.int (0 + (i : Int))), A2, rfl, ?_⟩
        rw [toAll_snoc]
        exact S.trans S2
    · rintro σ H' ⟨v, A', rfl, S⟩
      exact k H' A' S
/-! ### lock, free -/
def CDoes (C : Addr) (H : Hp) (A : CA) (c : Km259.Centre) (x : Km259.Call) (Q : VK) : Prop := ∀ (H' : Hp) (A' : CA) (c' : Km259.Centre) (t : List Km259.Told) (v : Int), c.does x = (c', t, .num v) → CStep C H A H' A' c' t → Q (.int v) H'
def spLock (C : Addr) : Sp := fun vs H Q _ => ∃ (A : CA) (c : Km259.Centre), vs = [.ref A.a] ∧ CentreAt C H A c [] ∧ CDoes C H A c .lock Q
theorem scLock : FnScope ["self"] ["self"] (defScope sLock) := ⟨rfl, rfl, rfl, by decide +kernel, rfl, by decide +kernel, by decide +kernel⟩
theorem ok_lock {f : Addr} {fd : FuncData} (F : Fun K "lock" "Centre.lock" sLock f fd) (T : Txt K mg) (G : CenT K mg C) (dS : Mth P w K mg base C "send_all" 5 ["self", "kind"] (spSendAll C)) : FnOk P w K mg base CX0 6 f fd ["self"] (spLock C) := by
  obtain ⟨fS, fdS, mS, bS, GS⟩ := dS.ex
  refine F.ok scLock (fun vs H Q E h => ?_) (fun cdv A outer s H vs Q E hr h => ?_)
  · obtain ⟨A, c, rfl, _⟩ := h
    rfl
  · obtain ⟨B, c, rfl, gat, k⟩ := h
    obtain ⟨dx, hd⟩ := gat.obj
    have hi := gat.ok.hi
    refine ⟨_, pss_cons (ps_if (pt_val (pe_fld (pv 0) rfl)) (pss_one (ps_ret (pe_gi rfl T.gNOT_NOW))) pss_nil)
      (pss_cons (ps_fldaug (pv 0) pe_int in_add)
      (pss_cons (ps_fld (pv 0) pe_bl rfl)
      (pss_cons (ps_fld (pv 0) (pe_op op_rep (pe_lst (pa_cons pe_non pa_nil)) (pe_fld (pv 0) rfl)) rfl)
      (pss_cons (ps_expr (pe_meth (pv 0) G.cl mS GS hr bS .nil pass0 (pa_cons (pe_gi rfl T.gLOCK) pa_nil)))
      (pss_one (ps_ret pe_int)))))), ?_⟩
    refine ⟨_, rfl, B.a, C, dx, _, _, rfl, hd, G.cl, G.is_on, cFs_is_on _ _ _ _ _ _ _ _, _, rfl, ?_⟩
    refine ite2 (fun con => ?_) (fun con => ?_)
    · refine k H B c [] (-11) ?_ (gat.stepSame (Same.refl H))
      unfold Km259.Centre.does
      dsimp only
      rw [if_pos con]
    · refine ⟨_, rfl, B.a, C, dx, _, _, rfl, hd, G.cl, G.number, cFs_number _ _ _ _ _ _ _ _, _, _, rfl, rfl, dx, _, hd, (by show 8 < 1000; decide), ?_⟩
      have S1 : CStep C H B (upd H B.a (.ins C dx (putF "number" (.int ((c.lock : Int) + 1)) (cR c B)))) { B with tk := B.tk } { c with lock := c.lock + 1 } [] := by
        rw [cFs_put_number]
        exact gat.put (c' := { c with lock := c.lock + 1 }) hd rfl rfl rfl gat.tick
      have g1 := S1.ok
      obtain ⟨d1, hd1⟩ := g1.obj
      refine ⟨_, rfl, B.a, C, d1, _, rfl, hd1, G.cl, G.is_on, (by show 8 < 1000; decide), ?_⟩
      have S2 : CStep C (upd H B.a (.ins C dx (putF "number" (.int ((c.lock : Int) + 1)) (cR c B)))) B (upd (upd H B.a (.ins C dx (putF "number" (.int ((c.lock : Int) + 1)) (cR c B)))) B.a (.ins C d1 (putF "is_on" (.bl true) (cR { c with lock := c.lock + 1 } B)))) { B with tk := B.tk } { c with lock := c.lock + 1, on := true } [] := by
        rw [cFs_put_is_on]
        exact g1.put (c' := { c with lock := c.lock + 1, on := true }) hd1 rfl rfl rfl gat.tick
      have g2 := S2.ok
      obtain ⟨d2, hd2⟩ := g2.obj
      refine ⟨(by show 1 ≤ sizeLine; decide), fun q1 hq1 => ?_⟩
      have s1 := same_new (o := .lst [V.non]) (Same.refl (upd (upd H B.a (.ins C dx (putF "number" (.int ((c.lock : Int) + 1)) (cR c B)))) B.a (.ins C d1 (putF "is_on" (.bl true) (cR { c with lock := c.lock + 1 } B))))) hq1
      refine ⟨_, rfl, B.a, C, d2, _, _, rfl, s1 _ _ hd2, G.cl, G.gates, cFs_gates _ _ _ _ _ _ _ _, q1, _, _, rfl, rfl, upd_same, by show -(2 ^ 63) ≤ (c.had.length : Int); omega, by show (c.had.length : Int) < 2 ^ 63; omega, ?_, fun q2 hq2 => ?_⟩
      · rw [sizeLine_eq]
        show 1 * ((c.had.length : Nat) : Int).toNat ≤ _
        rw [Int.toNat_natCast]
        omega
      have s2 := same_new (o := .lst (List.replicate ((c.had.length : Nat) : Int).toNat [V.non]).flatten) s1 (s1.free hq2)
      refine ⟨_, rfl, B.a, C, d2, _, rfl, s2 _ _ hd2, G.cl, G.confirmed, (by show 8 < 1000; decide), ?_⟩
      have S3 : CStep C (upd (upd H B.a (.ins C dx (putF "number" (.int ((c.lock : Int) + 1)) (cR c B)))) B.a (.ins C d1 (putF "is_on" (.bl true) (cR { c with lock := c.lock + 1 } B)))) B (upd (upd (upd (upd (upd H B.a (.ins C dx (putF "number" (.int ((c.lock : Int) + 1)) (cR c B)))) B.a (.ins C d1 (putF "is_on" (.bl true) (cR { c with lock := c.lock + 1 } B)))) q1 (.lst [V.non])) q2 (.lst (List.replicate ((c.had.length : Nat) : Int).toNat [V.non]).flatten)) B.a (.ins C d2 (putF "confirmed" (.ref q2) (cR { c with lock := c.lock + 1, on := true } B)))) { B with lc := q2 } { c with lock := c.lock + 1, on := true, confirmed := c.had.map fun _ => none } [] := by
        rw [cFs_put_confirmed]
        refine g2.none hd2 s2 (s1.free hq2) ?_
        rw [upd_same, rep_flat, Int.toNat_natCast, map_const_rep]
      have g3 := S3.ok
      obtain ⟨d3, hd3⟩ := g3.obj
      refine ⟨_, rfl, B.a, d3, _, rfl, hd3, cFs_no_send_all _ _ _ _ _ _ _ _, { B with lc := q2 }, _, 4, rfl, g3, fun H4 A4 S4 => ?_⟩
      refine k H4 A4 _ _ 0 ?_ (((S1.trans S2).trans S3).trans S4)
      unfold Km259.Centre.does
      dsimp only
      rw [if_neg con]
def spFree (C : Addr) : Sp := fun vs H Q _ => ∃ (A : CA) (c : Km259.Centre), vs = [.ref A.a] ∧ CentreAt C H A c [] ∧ CDoes C H A c .free Q
theorem scFree : FnScope ["self"] ["self"] (defScope sFree) := ⟨rfl, rfl, rfl, by decide +kernel, rfl, by decide +kernel, by decide +kernel⟩
theorem ok_free {f : Addr} {fd : FuncData} (F : Fun K "free" "Centre.free" sFree f fd) (T : Txt K mg) (G : CenT K mg C) (dS : Mth P w K mg base C "send_all" 5 ["self", "kind"] (spSendAll C)) : FnOk P w K mg base CX0 6 f fd ["self"] (spFree C) := by
  obtain ⟨fS, fdS, mS, bS, GS⟩ := dS.ex
  refine F.ok scFree (fun vs H Q E h => ?_) (fun cdv A outer s H vs Q E hr h => ?_)
  · obtain ⟨A, c, rfl, _⟩ := h
    rfl
  · obtain ⟨B, c, rfl, gat, k⟩ := h
    obtain ⟨dx, hd⟩ := gat.obj
    refine ⟨_, pss_cons (ps_if (pt_not (pt_val (pe_fld (pv 0) rfl))) (pss_one (ps_ret (pe_gi rfl T.gNOT_NOW))) pss_nil)
      (pss_cons (ps_fld (pv 0) pe_bl rfl)
      (pss_cons (ps_expr (pe_meth (pv 0) G.cl mS GS hr bS .nil pass0 (pa_cons (pe_gi rfl T.gFREE) pa_nil)))
      (pss_one (ps_ret pe_int)))), ?_⟩
    refine ⟨_, rfl, B.a, C, dx, _, _, rfl, hd, G.cl, G.is_on, cFs_is_on _ _ _ _ _ _ _ _, _, rfl, ?_⟩
    cases con : c.on with
    | false =>
      refine iteT (k H B c [] (-11) ?_ (gat.stepSame (Same.refl H)))
      unfold Km259.Centre.does
      dsimp only
      rw [con]
      rfl
    | true =>
      refine iteF ⟨_, rfl, B.a, C, dx, _, rfl, hd, G.cl, G.is_on, (by show 8 < 1000; decide), ?_⟩
      have S1 : CStep C H B (upd H B.a (.ins C dx (putF "is_on" (.bl false) (cR c B)))) { B with tk := B.tk } { c with on := false } [] := by
        rw [cFs_put_is_on]
        exact gat.put (c' := { c with on := false }) hd rfl rfl rfl gat.tick
      have g1 := S1.ok
      obtain ⟨d1, hd1⟩ := g1.obj
      refine ⟨_, rfl, B.a, d1, _, rfl, hd1, cFs_no_send_all _ _ _ _ _ _ _ _, B, _, 6, rfl, g1, fun H4 A4 S4 => ?_⟩
      refine k H4 A4 _ _ 0 ?_ (S1.trans S4)
      unfold Km259.Centre.does
      dsimp only
      rw [con]
      rfl
end
end Cy

namespace Cy
open PySem PySem.Spec PyProof.Rows L2
abbrev sCount : Stmt := inClass (top 29) 9
abbrev sTakePass : Stmt := inClass (top 29) 10
abbrev sTakeLocked : Stmt := inClass (top 29) 11
abbrev sCHeard : Stmt := inClass (top 29) 12
abbrev sCTick : Stmt := inClass (top 29) 13
abbrev sCState : Stmt := inClass (top 29) 14
section
variable {P : Program} {w : World} {K : PySem.W.Frag} {mg : Str → Option Value} {base : Heap} {C CM : Addr}
/-! ### many_within -/
def spMany (C : Addr) : Sp := fun vs H Q _ => ∃ (A : CA) (c : Km259.Centre) (ths : List Km259.Told), vs = [.ref A.a] ∧ CentreAt C H A c ths ∧ ∀ H' : Hp, Same H H' → Q (.int (many c : Int)) H'
theorem scMany : FnScope ["self", "tag"] ["self"] (defScope sMany) := ⟨rfl, rfl, rfl, by decide +kernel, rfl, by decide +kernel, by decide +kernel⟩
theorem bal_getD (L : List (Nat × Int)) (t : Nat) : ((valOf L t).map V.int).getD (.int 0) = V.int ((valOf L t).getD 0) := by
  cases valOf L t <;> rfl
theorem nat_keys {ys : List Int} {L : List (Nat × Int)} (h : ys.Perm (L.map fun p => (p.1 : Int))) : (ys.map Int.toNat).Perm (L.map (·.1)) ∧ ys = (ys.map Int.toNat).map fun (n : Nat) => (n : Int) := by
  constructor
  · have z := h.map Int.toNat
    rw [List.map_map] at z
    have e : (Int.toNat ∘ fun (p : Nat × Int) => (p.1 : Int)) = fun p => p.1 := by
      funext p
      exact Int.toNat_natCast _
    rw [e] at z
    exact z
  · rw [List.map_map]
    have e : ys.map ((fun (n : Nat) => (n : Int)) ∘ Int.toNat) = ys.map id := by
      apply List.map_congr_left
      intro y hy
      obtain ⟨p, _, ep⟩ := List.mem_map.mp (h.mem_iff.mp hy)
      show ((y.toNat : Nat) : Int) = y
      omega
    rw [e, List.map_id]
theorem ok_many {f : Addr} {fd : FuncData} (F : Fun K "many_within" "Centre.many_within" sMany f fd) (T : Txt K mg) (G : CenT K mg C) : FnOk P w K mg base CX0 1 f fd ["self"] (spMany C) := by
  refine F.ok scMany (fun vs H Q E h => ?_) (fun cdv A outer s H vs Q E hr h => ?_)
  · obtain ⟨A, c, ths, rfl, _⟩ := h
    rfl
  · obtain ⟨B, c, ths, rfl, gat, k⟩ := h
    obtain ⟨dx, hd⟩ := gat.obj
    have hu := hu_of hr
    refine ⟨_, pss_one (ps_ret (pe_callB call_len_seq rfl T.len PySem.boot_len (pa_cons (pe_lc (own := [("tag", 1)]) (g := gName 1) (tt := tTest (tOp (rI0 fun i j => .bl (decide (j < i))) (tDGet (tFld K (tVar 0) "balances") (tVar 1)) (tC (.int 0)))) (te := tVar 1) rfl scMany.nd
        (pi_list (pe_callB (cr_sortedKeys rfl) rfl T.sorted (by decide +kernel) (pa_cons (pe_fld (pv 0) rfl) pa_nil)))
        (blkOk_by (own := [("tag", 1)]) (N := ["self", "tag"]) (sc := defScope sMany) (by decide +kernel))
        (fun _ _ _ _ _ => pg_name (i := 1) scMany.nd rfl (Or.inl rfl))
        (fun _ _ _ _ _ => pts_one (pt_cmpR op_gt (pe_dget (by exact hu) (pe_fld (pv 0) rfl) (pv 1) (fun _ _ => rfl)) pe_int (nomark _)))
        (fun _ _ _ _ _ => pv 1)) pa_nil))), ?_⟩
    refine ⟨_, rfl, B.a, C, dx, _, _, rfl, hd, G.cl, G.balances, cFs_balances _ _ _ _ _ _ _ _, B.db, _, _, rfl, Rd.of gat.bd, keys_kvs B.L, fun ys p perm hp => ?_⟩
    obtain ⟨perm2, ey⟩ := nat_keys perm
    have ndL : (B.L.map (·.1)).Nodup := (gat.bp.map _).nodup_iff.mpr gat.ok.nd
    have s1 := same_new (o := .lst (ys.map V.int)) (Same.refl H) hp
    refine ⟨p, rfl, ⟨_, SqL.of upd_same⟩, fun D hD => ?_⟩
    refine lc_list (K := K) (a := p) (xs := ys.map V.int) (fun i H' => ∃ acc, H' D = some (.lst acc) ∧ acc.length = (((ys.map Int.toNat).take i).filter fun t => decide (0 < (valOf B.L t).getD 0)).length ∧ acc.length ≤ i ∧ ∀ b o, (upd H p (.lst (ys.map V.int))) b = some o → H' b = some o) ?_ ?_ ?_ ?_
    · exact ⟨[], upd_same, rfl, Nat.le_refl _, same_new (Same.refl _) hD⟩
    · rintro i H' _ ⟨acc, _, _, _, s2⟩
      exact Same.seq s2 (SqL.of upd_same)
    · rintro i x H' hx ⟨acc, hacc, hlen, hle, s2⟩
      have hi : i < ys.length := by
        have z := (List.getElem?_eq_some_iff.mp hx).1
        rw [List.length_map] at z
        exact z
      have hyl : ys.length ≤ 256 := by
        rw [perm.length_eq, List.length_map, gat.bp.length_eq]
        exact gat.ok.few
      rw [List.getElem?_map, List.getElem?_eq_getElem hi] at hx
      have ex : x = .int ys[i] := (Option.some.inj hx).symm
      subst ex
      have et : (ys.map Int.toNat)[i]? = some ys[i].toNat := by
        rw [List.getElem?_map, List.getElem?_eq_getElem hi]
        rfl
      have en : ys[i] = ((ys[i].toNat : Nat) : Int) := by
        have hm : ys[i] ∈ ys := List.getElem_mem hi
        obtain ⟨q, _, eq⟩ := List.mem_map.mp (perm.mem_iff.mp hm)
        omega
      generalize ys[i] = y at *
      generalize y.toNat = t at *
      subst en
      have hm : t ∈ B.L.map (·.1) := perm2.mem_iff.mp (List.mem_of_getElem? et)
      obtain ⟨q, hq, eq⟩ := List.mem_map.mp hm
      have hv : valOf B.L t = some q.2 := (valOf_mem ndL).mpr (by rw [← eq]; exact hq)
      refine ⟨rfl, ?_⟩
      refine ⟨_, rfl, B.a, C, dx, _, _, rfl, s2 _ _ (s1 _ _ hd), G.cl, G.balances, cFs_balances _ _ _ _ _ _ _ _, _, rfl, B.db, .int q.2, rfl, ?_, _, _, rfl, rfl, _, rfl, ?_⟩
      · have z := DGet.k (k := Sum.inl (t : Int)) (s2 _ _ (s1 _ _ gat.bd))
        rw [valV_kvs, hv] at z
        exact z
      have ft : ((ys.map Int.toNat).take (i + 1)) = (ys.map Int.toNat).take i ++ [t] := take_more et
      refine iteD (fun c1 => ?_) (fun c1 => ?_)
      · refine ⟨_, rfl, acc, hacc, ?_, ?_⟩
        · exact small1000 (by omega)
        · refine ⟨acc ++ [_], upd_same, ?_, ?_, ?_⟩
          · rw [ft, List.filter_append, List.length_append, List.length_append, hlen, List.filter_cons_of_pos (by rw [hv]; exact decide_eq_true c1)]
            rfl
          · rw [List.length_append]
            exact Nat.succ_le_succ hle
          · intro b o eb
            rw [upd_ne (ne_of_none eb hD)]
            exact s2 b o eb
      · refine ⟨acc, hacc, ?_, by omega, s2⟩
        rw [ft, List.filter_append, List.length_append, hlen, List.filter_cons_of_neg (by rw [hv]; intro z; exact c1 (of_decide_eq_true z))]
        rfl
    · rintro H' ⟨acc, hacc, hlen, _, s2⟩
      refine ⟨D, _, rfl, .inl (SqL.of hacc), ?_⟩
      rw [List.length_map] at hlen
      have e : acc.length = many c := by
        rw [hlen, ← List.length_map (f := Int.toNat) (as := ys), List.take_length, many_keys ndL perm2]
        exact many_perm gat.bp
      rw [e]
      exact k H' (s1.trans s2)
/-! ### is_clear -/
def spIsClear (C : Addr) : Sp := fun vs H Q _ => ∃ (A : CA) (c : Km259.Centre) (ths : List Km259.Told), vs = [.ref A.a] ∧ CentreAt C H A c ths ∧ ∀ H' : Hp, Same H H' → Q (.bl c.clear) H'
theorem scIsClear : FnScope ["self", "had", "confirmed"] ["self"] (defScope sIsClear) := ⟨rfl, rfl, rfl, by decide +kernel, rfl, by decide +kernel, by decide +kernel⟩
theorem ov_flat (l : List (Option Nat)) : (l.map ov).all flatV = true := by
  rw [List.all_map]
  refine List.all_eq_true.mpr fun x _ => ?_
  cases x <;> rfl
theorem inV_ov (l : List (Option Nat)) : inV .non (l.map ov) = true ↔ none ∈ l := by
  unfold inV
  rw [List.any_map, List.any_eq_true]
  constructor
  · rintro ⟨x, m, e⟩
    cases x with
    | none => exact m
    | some n => cases e
  · intro m
    exact ⟨none, m, rfl⟩
theorem ok_isClear {f : Addr} {fd : FuncData} (F : Fun K "is_clear" "Centre.is_clear" sIsClear f fd) (T : Txt K mg) (G : CenT K mg C) (dM : Mth P w K mg base C "many_within" 1 ["self"] (spMany C)) : FnOk P w K mg base CX0 2 f fd ["self"] (spIsClear C) := by
  obtain ⟨fM, fdM, mM, bM, GM⟩ := dM.ex
  refine F.ok scIsClear (fun vs H Q E h => ?_) (fun cdv A outer s H vs Q E hr h => ?_)
  · obtain ⟨A, c, ths, rfl, _⟩ := h
    rfl
  · obtain ⟨B, c, ths, rfl, gat, k⟩ := h
    obtain ⟨dx, hd⟩ := gat.obj
    have no : ∀ H' : Hp, Same H H' → ¬ (c.on = true ∧ (∀ i, i < c.had.length → reach c i) ∧ many c = 0) → Q (.bl false) H' := fun H' s' z => by
      have z2 := k H' s'
      rw [not_clear gat.ok z] at z2
      exact z2
    refine ⟨_, pss_cons (ps_if (PW.pt (pw_or (pt_not (pt_val (pe_fld (pv 0) rfl))) (pw_or (pt_cmpR op_in_seq pe_non (pe_fld (pv 0) rfl) rfl) (pw_or1 (pt_cmpR op_gt (pe_meth0 (pv 0) G.cl mM GM hr bM .nil pass0) pe_int (nomark _)))))) (pss_one (ps_ret pe_bl)) pss_nil)
      (pss_cons (ps_for PassesOwn.never rfl (pi_zip rfl T.zip (pa_cons (pe_fld (pv 0) rfl) (pa_cons (pe_fld (pv 0) rfl) pa_nil))) (pg_tup rfl (pgs_cons (pg_name (i := 1) scIsClear.nd rfl (.inl rfl)) (pgs_cons (pg_name (i := 2) scIsClear.nd rfl (.inl rfl)) pgs_nil)))
        (pss_one (ps_if (pt_cmpR op_lt (pv 1) (pv 2) (nomark _)) (pss_one (ps_ret pe_bl)) pss_nil)))
      (pss_one (ps_ret pe_bl))), ?_⟩
    refine ⟨_, rfl, B.a, C, dx, _, _, rfl, hd, G.cl, G.is_on, cFs_is_on _ _ _ _ _ _ _ _, _, rfl, ?_⟩
    cases con : c.on with
    | false =>
      refine iteT (iteT (no H (Same.refl H) fun z => ?_))
      rw [con] at z
      exact Bool.noConfusion z.1
    | true =>
      refine iteF ⟨_, rfl, B.a, C, dx, _, _, rfl, hd, G.cl, G.confirmed, cFs_confirmed _ _ _ _ _ _ _ _, B.lc, _, rfl, .inl (SqL.of gat.cl), rfl, ov_flat _, _, rfl, ?_⟩
      refine ite2 (fun cn => iteT ?_) (fun cn => ?_)
      · have hm : none ∈ c.confirmed := (inV_ov _).mp cn
        refine no H (Same.refl H) fun z => ?_
        obtain ⟨i, hi, ei⟩ := List.getElem_of_mem hm
        have hi' : i < c.had.length := by
          rw [← gat.ok.len]
          exact hi
        obtain ⟨n, en, _⟩ := z.2.1 i hi'
        rw [List.getElem?_eq_getElem hi, ei] at en
        cases en
      · have hm : none ∉ c.confirmed := fun z => cn ((inV_ov _).mpr z)
        refine ⟨_, rfl, B.a, dx, _, rfl, hd, cFs_no_many_within _ _ _ _ _ _ _ _, B, c, ths, rfl, gat, fun H1 s1 => ?_⟩
        refine ⟨_, _, rfl, rfl, _, rfl, ?_⟩
        refine iteD (fun c1 => no H1 s1 fun z => by have := z.2.2; omega) (fun c1 => ?_)
        have hz : many c = 0 := by omega
        have g1 := gat.same s1
        have hd1 := s1 _ _ hd
        refine ⟨_, rfl, B.a, C, dx, _, _, rfl, hd1, G.cl, G.had, cFs_had _ _ _ _ _ _ _ _, _, rfl, B.a, C, dx, _, _, rfl, hd1, G.cl, G.confirmed, cFs_confirmed _ _ _ _ _ _ _ _, B.lh, B.lc, _, _, rfl, SqL.of g1.hl, SqL.of g1.cl, ?_⟩
        refine RZ.for_zipL (K := K) (a := B.lh) (b := B.lc) (xs := iv c.had) (ys := c.confirmed.map ov) (by rw [iv_len, List.length_map, gat.ok.len]) (fun i σ H' => ∃ v1 v2, σ = [some (.ref B.a), v1, v2] ∧ Same H H' ∧ ∀ j, j < i → reach c j) ?_ ?_ ?_ ?_
        · exact ⟨none, none, rfl, s1, fun j hj => absurd hj (Nat.not_lt_zero j)⟩
        · rintro i σ H' ⟨v1, v2, rfl, s2, _⟩
          exact ⟨SqL.of (s2 _ _ gat.hl), SqL.of (s2 _ _ gat.cl)⟩
        · rintro i x y T' σ H' hx hy ⟨v1, v2, rfl, s2, hr'⟩ hT
          obtain ⟨n, hn, rfl⟩ := iv_get hx
          rw [List.getElem?_map] at hy
          obtain ⟨o, ho, eo⟩ := Option.map_eq_some_iff.mp hy
          cases o with
          | none => exact absurd (List.mem_of_getElem? ho) hm
          | some q =>
            have ey : y = .int (q : Int) := eo.symm
            subst ey
            have s3 : Same H (upd H' T' (.tup [.int (n : Int), .int (q : Int)])) := same_new s2 (s2.free hT)
            refine ⟨T', _, rfl, SqT.of upd_same, rfl, _, _, rfl, _, _, rfl, rfl, ?_⟩
            refine ⟨_, rfl, _, rfl, _, _, rfl, rfl, _, rfl, ?_⟩
            refine iteD (fun c2 => no _ s3 fun z => ?_) (fun c2 => ?_)
            · have hi : i < c.had.length := (List.getElem?_eq_some_iff.mp hn).1
              obtain ⟨n2, e2, k2, e3, hle⟩ := z.2.1 i hi
              rw [ho] at e2
              rw [hn] at e3
              cases e2
              cases e3
              omega
            · refine ⟨some (.int (n : Int)), some (.int (q : Int)), rfl, s3, fun j hj => ?_⟩
              by_cases ej : j = i
              · rw [ej]
                exact ⟨q, ho, n, hn, by omega⟩
              · exact hr' j (by omega)
        · rintro σ H' ⟨v1, v2, rfl, s2, hr'⟩
          rw [iv_len] at hr'
          have z := k H' s2
          rw [(clear_iff gat.ok).mpr ⟨con, hr', hz⟩] at z
          exact z
/-! ### fire -/
def spFire (C : Addr) : Sp := fun vs H Q _ => ∃ (A : CA) (c : Km259.Centre), vs = [.ref A.a] ∧ CentreAt C H A c [] ∧ CDoes C H A c .fire Q
theorem scFire : FnScope ["self"] ["self"] (defScope sFire) := ⟨rfl, rfl, rfl, by decide +kernel, rfl, by decide +kernel, by decide +kernel⟩
theorem ok_fire {f : Addr} {fd : FuncData} (F : Fun K "fire" "Centre.fire" sFire f fd) (T : Txt K mg) (G : CenT K mg C) (dI : Mth P w K mg base C "is_clear" 2 ["self"] (spIsClear C)) (dT : Mth P w K mg base C "tell" 1 ["self", "what"] (spTell C)) : FnOk P w K mg base CX0 3 f fd ["self"] (spFire C) := by
  obtain ⟨fI, fdI, mI, bI, GI⟩ := dI.ex
  obtain ⟨fT, fdT, mT, bT, GT⟩ := dT.ex
  refine F.ok scFire (fun vs H Q E h => ?_) (fun cdv A outer s H vs Q E hr h => ?_)
  · obtain ⟨A, c, rfl, _⟩ := h
    rfl
  · obtain ⟨B, c, rfl, gat, k⟩ := h
    obtain ⟨dx, hd⟩ := gat.obj
    have hr1 : Room 1 _ := hr.mono (by decide)
    refine ⟨_, pss_cons (ps_if (pt_not (pt_val (pe_meth0 (pv 0) G.cl mI GI hr bI .nil pass0))) (pss_one (ps_ret (pe_gi rfl T.gNOT_NOW))) pss_nil)
      (pss_cons (ps_expr (pe_meth (pv 0) G.cl mT GT hr1 bT .nil pass0 (pa_cons (pe_gi rfl T.gFIRE) pa_nil)))
      (pss_one (ps_ret pe_int))), ?_⟩
    refine ⟨_, rfl, B.a, dx, _, rfl, hd, cFs_no_is_clear _ _ _ _ _ _ _ _, B, c, [], rfl, gat, fun H1 s1 => ⟨_, rfl, ?_⟩⟩
    cases e : c.clear with
    | false =>
      refine iteT (k H1 B c [] (-11) ?_ (gat.stepSame s1))
      unfold Km259.Centre.does
      dsimp only
      rw [e]
      rfl
    | true =>
      refine iteF ⟨_, rfl, B.a, dx, _, rfl, s1 _ _ hd, cFs_no_tell _ _ _ _ _ _ _ _, B, c, [], 2, rfl, gat.same s1, Nat.zero_le _, fun H2 A2 S2 => ?_⟩
      refine k H2 A2 _ _ 0 ?_ ((gat.stepSame s1).trans S2)
      unfold Km259.Centre.does
      dsimp only
      rw [e]
      rfl
end
end Cy

namespace Cy
open PySem PySem.Spec PyProof.Rows L2
section
variable {P : Program} {w : World} {K : PySem.W.Frag} {mg : Str → Option Value} {base : Heap} {C CM : Addr}
/-! ### count -/
def way (m : Km259.Msg) : Int := if m.in_ = 1 then 1 else -1
def spCount (C CM : Addr) : Sp := fun vs H Q _ => ∃ (A : CA) (c : Km259.Centre) (ths : List Km259.Told) (p : Addr) (m : Km259.Msg), vs = [.ref A.a, .ref p] ∧ CentreAt C H A c ths ∧ MsgAt CM H p m ∧ m.in_ ≤ 1 ∧ (c.balance.length < Km259.MOST ∨ c.of m.tag ≠ 0) ∧
  ∀ (H' : Hp) (A' : CA), CStep C H A H' A' { c with balance := c.counts m.tag (way m) } ths → Q .non H'
theorem scCount : FnScope ["self", "message", "balance"] ["self", "message"] (defScope sCount) := ⟨rfl, rfl, rfl, by decide +kernel, rfl, by decide +kernel, by decide +kernel⟩
theorem ok_count {f : Addr} {fd : FuncData} (F : Fun K "count" "Centre.count" sCount f fd) (T : Txt K mg) (G : CenT K mg C) (M : MsgT K mg CM) : FnOk P w K mg base CX0 1 f fd ["self", "message"] (spCount C CM) := by
  refine F.ok scCount (fun vs H Q E h => ?_) (fun cdv A outer s H vs Q E hr h => ?_)
  · obtain ⟨A, c, ths, p, m, rfl, _⟩ := h
    rfl
  · obtain ⟨B, c, ths, mp, m, rfl, gat, hm, hin, hfew, k⟩ := h
    obtain ⟨dx, hd⟩ := gat.obj
    obtain ⟨mz, md, hm0⟩ := id hm
    have hu := hu_of hr
    refine ⟨_, pss_cons (ps_set (i := 2) scCount.nd rfl (.inl rfl) (pe_op op_sub (pe_op op_add (pe_dget2 hu (pe_fld (pv 0) rfl) (pe_fld (pv 1) rfl) pe_int ⟨rfl, rfl, rfl, rfl⟩) (pe_op op_mul pe_int (pe_fld (pv 1) rfl))) pe_int))
      (pss_cons (ps_dput hu (pe_fld (pv 0) rfl) (pe_fld (pv 1) rfl) (pv 2) rfl)
      (pss_one (ps_if (pt_cmpR op_eq (pv 2) pe_int (nomark _)) (pss_one (ps_expr (pe_dpop1 (pe_fld (pv 0) rfl) (pe_fld (pv 1) rfl) ⟨rfl, rfl, rfl, rfl⟩))) pss_nil))), ?_⟩
    have ndL : (B.L.map (·.1)).Nodup := (gat.bp.map _).nodup_iff.mpr gat.ok.nd
    have eval0 : valOf B.L m.tag = valOf c.balance m.tag := valOf_perm gat.bp ndL m.tag
    have eof : (valOf B.L m.tag).getD 0 = c.of m.tag := by
      rw [eval0]
      rfl
    have g0 := DGet.k (k := Sum.inl (m.tag : Int)) gat.bd
    rw [valV_kvs] at g0
    refine ⟨_, rfl, B.a, C, dx, _, _, rfl, hd, G.cl, G.balances, cFs_balances _ _ _ _ _ _ _ _, B.db, rfl, .inl ⟨_, Rd.of gat.bd⟩, _, rfl, mp, CM, md, _, _, rfl, hm0, M.cl, M.tag, mFs_tag _ _ _ _ _ _, _, g0,
      _, rfl, mp, CM, md, _, _, rfl, hm0, M.cl, M.going, mFs_going _ _ _ _ _ _, _, _, rfl, rfl, .inl ⟨by decide, by decide⟩, _, _, bal_getD _ _, rfl, _, _, rfl, rfl, ?_⟩
    have ew : (valOf B.L m.tag).getD 0 + 2 * (m.in_ : Int) - 1 = c.of m.tag + way m := by
      rw [eof]
      unfold way
      by_cases e1 : m.in_ = 1
      · rw [if_pos e1, e1]
        omega
      · rw [if_neg e1]
        have : m.in_ = 0 := by omega
        rw [this]
        omega
    have hlen : (kvs B.L).length < sizeLine := by
      rw [kvs_len, gat.bp.length_eq]
      exact small1000 (Nat.le_trans gat.ok.few (by decide))
    obtain ⟨o1, o2, o3⟩ := counts_ok gat.ok m.tag (way m) hfew
    have hok : COk { c with balance := c.counts m.tag (way m) } := ⟨gat.ok.len, gat.ok.lo, gat.ok.hi, o1, o2, o3⟩
    dsimp only
    rw [ew]
    refine ⟨_, rfl, _, rfl, B.a, C, dx, _, _, rfl, hd, G.cl, G.balances, cFs_balances _ _ _ _ _ _ _ _, _, rfl, mp, CM, md, _, _, rfl, hm0, M.cl, M.tag, mFs_tag _ _ _ _ _ _, B.db, _, rfl, DPut.k (k := Sum.inl (m.tag : Int)) gat.bd hlen, ?_⟩
    rw [putK_kvs]
    have nd : B.a ≠ B.db := ne_of hd gat.bd (by intro z; cases z)
    have nm : mp ≠ B.db := ne_of hm0 gat.bd (by intro z; cases z)
    have pput := putL_perm (t := m.tag) (v := c.of m.tag + way m) ndL
    refine ⟨_, rfl, rfl, _, rfl, ?_⟩
    refine iteI (fun c0 => ?_) (fun c0 => ?_)
    · refine ⟨_, rfl, B.a, C, dx, _, _, rfl, (upd_ne nd).trans hd, G.cl, G.balances, cFs_balances _ _ _ _ _ _ _ _, B.db, rfl, .inl ⟨_, Rd.of upd_same⟩, _, rfl, mp, CM, md, _, _, rfl, (upd_ne nm).trans hm0, M.cl, M.tag, mFs_tag _ _ _ _ _ _, _, Sum.inl (m.tag : Int), .int (c.of m.tag + way m), upd_same, rfl, ?_, ?_⟩
      · rw [valV_kvs]
        have hv : valOf (putL B.L m.tag (c.of m.tag + way m)) m.tag = some (c.of m.tag + way m) := by
          have ndP : ((putL B.L m.tag (c.of m.tag + way m)).map (·.1)).Nodup := (pput.map _).nodup_iff.mpr (snoc_keys (dropL_keys ndL) dropL_not)
          exact (valOf_mem ndP).mpr (pput.mem_iff.mpr (List.mem_append_right _ (List.mem_singleton.mpr rfl)))
        rw [hv]
        rfl
      · rw [upd_upd, dropK_kvs, drop_putL]
        refine k _ { B with L := dropL B.L m.tag } (gat.setBal ?_ hok)
        show (dropL B.L m.tag).Perm (dropL c.balance m.tag ++ if c.of m.tag + way m = 0 then [] else [(m.tag, c.of m.tag + way m)])
        rw [if_pos c0, List.append_nil]
        exact dropL_perm gat.bp m.tag
    · refine k _ { B with L := putL B.L m.tag (c.of m.tag + way m) } (gat.setBal ?_ hok)
      show (putL B.L m.tag (c.of m.tag + way m)).Perm (dropL c.balance m.tag ++ if c.of m.tag + way m = 0 then [] else [(m.tag, c.of m.tag + way m)])
      rw [if_neg c0]
      exact pput.trans ((dropL_perm gat.bp m.tag).append_right _)
/-! ### take_pass -/
def hadTold (d : Km259.Centre) (m : Km259.Msg) : List Km259.Told := if m.number ≤ d.had.getD m.gate 0 then [.cSend m.gate (Km259.Msg.bytes ⟨2, m.gate, 0, m.number, 0⟩)] else []
def spTakePass (C CM : Addr) : Sp := fun vs H Q _ => ∃ (A : CA) (c : Km259.Centre) (p : Addr) (m : Km259.Msg), vs = [.ref A.a, .ref p] ∧ CentreAt C H A c [] ∧ MsgAt CM H p m ∧ m.in_ ≤ 1 ∧ m.gate < c.had.length ∧
  ∀ (H' : Hp) (A' : CA), CStep C H A H' A' (c.pass m) (hadTold (c.pass m) m) → Q .non H'
theorem scTakePass : FnScope ["self", "message", "gate"] ["self", "message"] (defScope sTakePass) := ⟨rfl, rfl, rfl, by decide +kernel, rfl, by decide +kernel, by decide +kernel⟩
theorem had_at {c : Km259.Centre} {g : Nat} (h : g < c.had.length) : (iv c.had)[g]? = some (.int (c.had.getD g 0 : Int)) := by
  unfold iv
  rw [List.getElem?_map, List.getD_eq_getElem?_getD, List.getElem?_eq_getElem h]
  rfl
theorem two_refs {a b : Addr} (h : a = b) (x : V) : [V.ref b, x] = [V.ref a, x] := by rw [h]
theorem ok_takePass {f : Addr} {fd : FuncData} (F : Fun K "take_pass" "Centre.take_pass" sTakePass f fd) (T : Txt K mg) (G : CenT K mg C) (M : MsgT K mg CM) (dC : Mth P w K mg base C "count" 1 ["self", "message"] (spCount C CM)) (dS : Mth P w K mg base C "send" 4 ["self", "kind", "gate", "number", "tag"] (spSend C)) :
    FnOk P w K mg base CX0 5 f fd ["self", "message"] (spTakePass C CM) := by
  obtain ⟨fC, fdC, mC, bC, GC⟩ := dC.ex
  obtain ⟨fS, fdS, mS, bS, GS⟩ := dS.ex
  refine F.ok scTakePass (fun vs H Q E h => ?_) (fun cdv A outer s H vs Q E hr h => ?_)
  · obtain ⟨A, c, p, m, rfl, _⟩ := h
    rfl
  · obtain ⟨B, c, mp, m, rfl, gat, hm, hin, hg, k⟩ := h
    obtain ⟨dx, hd⟩ := gat.obj
    obtain ⟨mz, md, hm0⟩ := id hm
    have hu := hu_of hr
    have hr1 : Room 1 _ := hr.mono (by decide)
    refine ⟨_, pss_cons (ps_set (i := 2) scTakePass.nd rfl (.inl rfl) (pe_fld (pv 1) rfl))
      (pss_cons (ps_if (pt_cmpR op_eq (pe_fld (pv 1) rfl) (pe_op op_add (pe_ix ix_list (pe_fld (pv 0) rfl) (pv 2) (fun _ _ => rfl)) pe_int) (nomark _))
        (pss_cons (ps_if (PW.pt (pw_and (pt_cmpR op_ge (pe_callB call_lenD rfl T.len PySem.boot_len (pa_cons (pe_fld (pv 0) rfl) pa_nil)) (pe_gi rfl T.gMOST_TAGS) (nomark _)) (pw_and1 (pt_cmp (pc_dnotin hu (pe_fld (pv 1) rfl) (pe_fld (pv 0) rfl)))))) (pss_one ps_retN) pss_nil)
        (pss_cons (ps_augS (pe_fld (pv 0) rfl) (pv 2) get_listN pe_int ip_add set_list)
        (pss_one (ps_expr (pe_meth (pv 0) G.cl mC GC hr1 bC .nil pass0 (pa_cons (pv 1) pa_nil)))))) pss_nil)
      (pss_one (ps_if (pt_cmpR op_ge (pe_ix ix_list (pe_fld (pv 0) rfl) (pv 2) (fun _ _ => rfl)) (pe_fld (pv 1) rfl) (nomark _))
        (pss_one (ps_expr (pe_meth (pv 0) G.cl mS GS hr bS .nil pass0 (pa_cons (pe_gi rfl T.gHAD) (pa_cons (pv 2) (pa_cons (pe_fld (pv 1) rfl) (pa_cons pe_int pa_nil))))))) pss_nil))), ?_⟩
    have fin : ∀ (H1 : Hp) (B1 : CA) (d : Km259.Centre), CStep C H B H1 B1 d [] → MsgAt CM H1 mp m → m.gate < d.had.length → d = c.pass m →
        tIfS (tTest (tOp (rI0 fun i j => .bl (decide (j ≤ i))) (tOp (rIxL K) (tFld K (tVar 0) "had") (tVar 2)) (tFld K (tVar 1) "number"))) (tDrop (tMeth C "send" (spSend C) [] E0 (tVar 0) (tCons (tC (.int 2)) (tCons (tVar 2) (tCons (tFld K (tVar 1) "number") (tCons (tC (.int 0)) tNil)))))) tNext
          { nx := fun _ H' => Q .non H', rt := Q } [some (.ref B.a), some (.ref mp), some (.int (m.gate : Int))] H1 := by
      intro H1 B1 d S hm1 hg1 ed
      obtain ⟨dy, hd1⟩ := S.ok.obj
      rw [S.same] at hd1
      obtain ⟨mz, md, hm0⟩ := hm1
      refine ⟨_, rfl, B.a, C, dy, _, _, rfl, hd1, G.cl, G.had, cFs_had _ _ _ _ _ _ _ _, _, rfl, B1.lh, _, _, _, rfl, rfl, SqL.of S.ok.hl, atI_nat (had_at hg1), _, rfl, mp, CM, md, _, _, rfl, hm0, M.cl, M.number, mFs_number _ _ _ _ _ _, _, _, rfl, rfl, _, rfl, ?_⟩
      refine iteD (fun c1 => ?_) (fun c1 => ?_)
      · refine ⟨_, rfl, B.a, dy, _, rfl, hd1, cFs_no_send _ _ _ _ _ _ _ _, _, rfl, _, rfl, mp, CM, md, _, _, rfl, hm0, M.cl, M.number, mFs_number _ _ _ _ _ _, B1, d, [], 2, m.gate, m.number, 0, ?_, S.ok, Nat.zero_le _, fun H2 A2 S2 => ?_⟩
        · rw [S.same]
          rfl
        · refine k H2 A2 ?_
          rw [← ed]
          unfold hadTold
          rw [if_pos (by omega)]
          exact S.trans S2
      · refine k H1 B1 ?_
        rw [← ed]
        unfold hadTold
        rw [if_neg (by omega)]
        exact S
    refine ⟨_, rfl, mp, CM, md, _, _, rfl, hm0, M.cl, M.gate, mFs_gate _ _ _ _ _ _, ?_⟩
    refine ⟨_, rfl, mp, CM, md, _, _, rfl, hm0, M.cl, M.number, mFs_number _ _ _ _ _ _, _, rfl, B.a, C, dx, _, _, rfl, hd, G.cl, G.had, cFs_had _ _ _ _ _ _ _ _, _, rfl, B.lh, _, _, _, rfl, rfl, SqL.of gat.hl, atI_nat (had_at hg), _, _, rfl, rfl, rfl, _, rfl, ?_⟩
    refine iteI (fun cn => ?_) (fun cn => ?_)
    · have cn' : m.number = c.had.getD m.gate 0 + 1 := by
        have cn : (m.number : Int) = (c.had.getD m.gate 0 : Int) + 1 := cn
        omega
      have ndL : (B.L.map (·.1)).Nodup := (gat.bp.map _).nodup_iff.mpr gat.ok.nd
      have eval0 : valOf B.L m.tag = valOf c.balance m.tag := valOf_perm gat.bp ndL m.tag
      -- it is had
      have have_it : (c.balance.length < Km259.MOST ∨ c.of m.tag ≠ 0) → tSeq (tAugS (tFld K (tVar 0) "had") (tVar 2) (tC (.int 1)) (rGetN K) (ipI fun i j => i + j) rSetL) (tDrop (tMeth C "count" (spCount C CM) [] E0 (tVar 0) (tCons (tVar 1) tNil)))
          { nx := tIfS (tTest (tOp (rI0 fun i j => .bl (decide (j ≤ i))) (tOp (rIxL K) (tFld K (tVar 0) "had") (tVar 2)) (tFld K (tVar 1) "number"))) (tDrop (tMeth C "send" (spSend C) [] E0 (tVar 0) (tCons (tC (.int 2)) (tCons (tVar 2) (tCons (tFld K (tVar 1) "number") (tCons (tC (.int 0)) tNil)))))) tNext { nx := fun _ H' => Q .non H', rt := Q }, rt := Q }
          [some (.ref B.a), some (.ref mp), some (.int (m.gate : Int))] H := by
        intro hfew
        refine ⟨_, rfl, B.a, C, dx, _, _, rfl, hd, G.cl, G.had, cFs_had _ _ _ _ _ _ _ _, _, rfl, B.lh, _, m.gate, _, rfl, rfl, SqL.of gat.hl, had_at hg, _, _, rfl, rfl, B.lh, _, _, m.gate, rfl, rfl, gat.hl, ?_, ?_⟩
        · unfold ixN
          rw [if_pos (Int.natCast_nonneg _), if_pos (by rw [iv_len]; omega), Int.toNat_natCast]
        have eset : (iv c.had).set m.gate (.int ((c.had.getD m.gate 0 : Int) + 1)) = iv (c.had.set m.gate m.number) := by
          unfold iv
          rw [List.map_set, cn']
          rfl
        have S1 : CStep C H B (upd H B.lh (.lst ((iv c.had).set m.gate (.int ((c.had.getD m.gate 0 : Int) + 1))))) B { c with had := c.had.set m.gate m.number } [] := by
          rw [eset]
          exact gat.setHad (List.length_set ..)
        have g1 := S1.ok
        have hm1 := hm.cstep gat S1
        obtain ⟨d1, hd1⟩ := g1.obj
        refine ⟨_, rfl, B.a, d1, _, rfl, hd1, cFs_no_count _ _ _ _ _ _ _ _, _, rfl, B, _, [], mp, m, rfl, g1, hm1, hin, hfew, fun H2 A2 S2 => ?_⟩
        refine fin H2 A2 _ (S1.trans S2) (hm1.cstep g1 S2) ?_ ?_
        · show m.gate < (c.had.set m.gate m.number).length
          rw [List.length_set]
          exact hg
        · unfold Km259.Centre.pass
          rw [if_pos ⟨cn', hfew⟩]
          rfl
      have eb : (kvs B.L).length = c.balance.length := by rw [kvs_len, gat.bp.length_eq]
      refine ⟨_, rfl, B.a, C, dx, _, _, rfl, hd, G.cl, G.balances, cFs_balances _ _ _ _ _ _ _ _, B.db, _, rfl, gat.bd, _, _, rfl, rfl, _, rfl, ?_⟩
      rw [eb]
      refine iteD (fun cl => ?_) (fun cl => have_it (.inl (by show c.balance.length < 256; omega)))
      have g0 := DGet.k (k := Sum.inl (m.tag : Int)) gat.bd
      rw [valV_kvs, eval0] at g0
      refine ⟨_, rfl, mp, CM, md, _, _, rfl, hm0, M.cl, M.tag, mFs_tag _ _ _ _ _ _, _, rfl, B.a, C, dx, _, _, rfl, hd, G.cl, G.balances, cFs_balances _ _ _ _ _ _ _ _, B.db, _, rfl, g0, _, rfl, ?_⟩
      have eis : ((valOf c.balance m.tag).map V.int).isSome = (valOf c.balance m.tag).isSome := by cases valOf c.balance m.tag <;> rfl
      rw [eis]
      cases e : (valOf c.balance m.tag).isSome with
      | true => exact iteF (have_it (.inr ((of_ne gat.ok m.tag).mpr e)))
      | false =>
        refine iteT (k H B ?_)
        have ep : c.pass m = c := by
          unfold Km259.Centre.pass
          rw [if_neg]
          rintro ⟨_, z | z⟩
          · have : c.balance.length < 256 := z
            omega
          · rw [(of_ne gat.ok m.tag).mp z] at e
            cases e
        rw [ep]
        unfold hadTold
        rw [if_neg (by omega)]
        exact gat.stepSame (Same.refl H)
    · refine fin H B c (gat.stepSame (Same.refl H)) hm hg ?_
      unfold Km259.Centre.pass
      rw [if_neg]
      rintro ⟨z, _⟩
      refine cn ?_
      show (m.number : Int) = (c.had.getD m.gate 0 : Int) + 1
      omega
/-! ### take_locked -/
def cLocked (c : Km259.Centre) (m : Km259.Msg) : Km259.Centre := if c.on = true ∧ m.tag = c.lock then { c with confirmed := c.confirmed.set m.gate (some (Km259.most (c.confirmed.getD m.gate none) m.number)) } else c
def spTakeLocked (C CM : Addr) : Sp := fun vs H Q _ => ∃ (A : CA) (c : Km259.Centre) (p : Addr) (m : Km259.Msg), vs = [.ref A.a, .ref p] ∧ CentreAt C H A c [] ∧ MsgAt CM H p m ∧ m.gate < c.had.length ∧
  ∀ (H' : Hp) (A' : CA), CStep C H A H' A' (cLocked c m) [] → Q .non H'
theorem scTakeLocked : FnScope ["self", "message", "old"] ["self", "message"] (defScope sTakeLocked) := ⟨rfl, rfl, rfl, by decide +kernel, rfl, by decide +kernel, by decide +kernel⟩
theorem conf_at {c : Km259.Centre} {g : Nat} (h : g < c.confirmed.length) : (c.confirmed.map ov)[g]? = some (ov (c.confirmed.getD g none)) := by
  rw [List.getElem?_map, List.getD_eq_getElem?_getD, List.getElem?_eq_getElem h]
  rfl
theorem set_same {α : Type} : ∀ {l : List α} {i : Nat} {x : α}, l[i]? = some x → l.set i x = l
  | [], i, x, h => by simp at h
  | a :: l, 0, x, h => by
    have e : a = x := Option.some.inj h
    rw [e]
    rfl
  | a :: l, i + 1, x, h => by
    have ih := set_same (l := l) (i := i) (x := x) h
    show a :: l.set i x = a :: l
    rw [ih]
theorem ok_takeLocked {f : Addr} {fd : FuncData} (F : Fun K "take_locked" "Centre.take_locked" sTakeLocked f fd) (T : Txt K mg) (G : CenT K mg C) (M : MsgT K mg CM) : FnOk P w K mg base CX0 1 f fd ["self", "message"] (spTakeLocked C CM) := by
  refine F.ok scTakeLocked (fun vs H Q E h => ?_) (fun cdv A outer s H vs Q E hr h => ?_)
  · obtain ⟨A, c, p, m, rfl, _⟩ := h
    rfl
  · obtain ⟨B, c, mp, m, rfl, gat, hm, hg, k⟩ := h
    obtain ⟨dx, hd⟩ := gat.obj
    obtain ⟨mz, md, hm0⟩ := id hm
    have hgc : m.gate < c.confirmed.length := by
      rw [gat.ok.len]
      exact hg
    refine ⟨_, pss_one (ps_if (PW.pt (pw_and (pt_val (pe_fld (pv 0) rfl)) (pw_and1 (pt_cmpR op_eq (pe_fld (pv 1) rfl) (pe_fld (pv 0) rfl) (nomark _)))))
      (pss_cons (ps_set (i := 2) scTakeLocked.nd rfl (.inl rfl) (pe_ix ix_list (pe_fld (pv 0) rfl) (pe_fld (pv 1) rfl) (fun _ _ => rfl)))
        (pss_one (ps_if (PW.pt (pw_or (pt_cmpR op_isN (pv 2) pe_non (nomark _)) (pw_or1 (pt_cmpR op_lt (pv 2) (pe_fld (pv 1) rfl) (nomark _)))))
          (pss_one (ps_asg (pe_fld (pv 1) rfl) (pg_sub (pe_fld (pv 0) rfl) (pe_fld (pv 1) rfl) set_list))) pss_nil))) pss_nil), ?_⟩
    have stay : ¬ (c.on = true ∧ m.tag = c.lock) → Q .non H := fun z => by
      refine k H B ?_
      unfold cLocked
      rw [if_neg z]
      exact gat.stepSame (Same.refl H)
    refine ⟨_, rfl, B.a, C, dx, _, _, rfl, hd, G.cl, G.is_on, cFs_is_on _ _ _ _ _ _ _ _, _, rfl, ?_⟩
    refine ite2 (fun con => ?_) (fun con => stay fun z => con z.1)
    refine ⟨_, rfl, mp, CM, md, _, _, rfl, hm0, M.cl, M.tag, mFs_tag _ _ _ _ _ _, _, rfl, B.a, C, dx, _, _, rfl, hd, G.cl, G.number, cFs_number _ _ _ _ _ _ _ _, rfl, _, rfl, ?_⟩
    refine iteI (fun ct => ?_) (fun ct => stay fun z => ct (by rw [z.2]))
    have yes : c.on = true ∧ m.tag = c.lock := ⟨con, by omega⟩
    -- what is stored
    have store : some m.number = some (Km259.most (c.confirmed.getD m.gate none) m.number) → ∀ σ2 : Option V, tAsg (tFld K (tVar 1) "number") (gSub (tFld K (tVar 0) "confirmed") (tFld K (tVar 1) "gate") rSetL) { nx := fun _ H' => Q .non H', rt := Q } [some (.ref B.a), some (.ref mp), σ2] H := by
      intro em σ2
      refine ⟨_, rfl, mp, CM, md, _, _, rfl, hm0, M.cl, M.number, mFs_number _ _ _ _ _ _, _, rfl, B.a, C, dx, _, _, rfl, hd, G.cl, G.confirmed, cFs_confirmed _ _ _ _ _ _ _ _, _, rfl, mp, CM, md, _, _, rfl, hm0, M.cl, M.gate, mFs_gate _ _ _ _ _ _, B.lc, _, _, m.gate, rfl, rfl, gat.cl, ?_, ?_⟩
      · unfold ixN
        rw [if_pos (Int.natCast_nonneg _), if_pos (by rw [List.length_map]; omega), Int.toNat_natCast]
      · refine k _ B ?_
        unfold cLocked
        rw [if_pos yes, ← em]
        have eset : (c.confirmed.map ov).set m.gate (.int (m.number : Int)) = (c.confirmed.set m.gate (some m.number)).map ov := by
          rw [List.map_set]
          rfl
        rw [eset]
        exact gat.setConf (List.length_set ..)
    refine ⟨_, rfl, B.a, C, dx, _, _, rfl, hd, G.cl, G.confirmed, cFs_confirmed _ _ _ _ _ _ _ _, _, rfl, mp, CM, md, _, _, rfl, hm0, M.cl, M.gate, mFs_gate _ _ _ _ _ _, B.lc, _, _, _, rfl, rfl, SqL.of gat.cl, atI_nat (conf_at hgc), ?_⟩
    have hat : c.confirmed[m.gate]? = some (c.confirmed.getD m.gate none) := by
      rw [List.getD_eq_getElem?_getD, List.getElem?_eq_getElem hgc]
      rfl
    refine ⟨_, rfl, rfl, _, rfl, ?_⟩
    cases eo : c.confirmed.getD m.gate none with
    | none =>
      refine iteD (fun _ => iteT ?_) (fun z => absurd rfl z)
      refine store ?_ _
      rw [eo]
      rfl
    | some n =>
      refine iteD (fun z => by cases z) (fun _ => ?_)
      refine ⟨_, rfl, _, rfl, mp, CM, md, _, _, rfl, hm0, M.cl, M.number, mFs_number _ _ _ _ _ _, _, _, rfl, rfl, _, rfl, ?_⟩
      refine iteD (fun z => ?_) (fun z => ?_)
      · refine store ?_ _
        rw [eo]
        show some m.number = some (max n m.number)
        rw [Nat.max_eq_right (by omega)]
      · refine k H B ?_
        unfold cLocked
        rw [if_pos yes]
        have em : some (Km259.most (c.confirmed.getD m.gate none) m.number) = c.confirmed.getD m.gate none := by
          rw [eo]
          show some (max n m.number) = some n
          rw [Nat.max_eq_left (by omega)]
        rw [em, set_same hat]
        exact gat.stepSame (Same.refl H)
end
end Cy

namespace Cy
open PySem PySem.Spec PyProof.Rows L2
theorem rightOf_in {kinds l : List Nat} {n : Nat} {m : Km259.Msg} (h : Km259.rightOf kinds l n = some m) : m.in_ ≤ 1 := by
  unfold Km259.rightOf at h
  split at h
  · cases h
  · split at h
    · cases h
    · split at h
      · rename_i q z
        have e := Option.some.inj h
        subst e
        have r := z.1
        unfold Km259.Msg.right at r
        simp only [Bool.and_eq_true, decide_eq_true_eq] at r
        exact r.1.1.1.2
      · cases h
section
variable {P : Program} {w : World} {K : PySem.W.Frag} {mg : Str → Option Value} {base : Heap} {C CM : Addr}
/-! ### heard -/
def spCHeard (K : PySem.W.Frag) (C : Addr) : Sp := fun vs H Q _ => ∃ (A : CA) (c : Km259.Centre) (r : Addr) (l : List Nat), vs = [.ref A.a, .ref r] ∧ CentreAt C H A c [] ∧ SqL K H r (iv l) ∧ (∀ b ∈ l, b < 256) ∧ CDoes C H A c (.cHeard l l.length) Q
theorem scCHeard : FnScope ["self", "row", "message", "was_clear"] ["self", "row"] (defScope sCHeard) := ⟨rfl, rfl, rfl, by decide +kernel, rfl, by decide +kernel, by decide +kernel⟩
theorem ok_cHeard {f : Addr} {fd : FuncData} (F : Fun K "heard" "Centre.heard" sCHeard f fd) (T : Txt K mg) (G : CenT K mg C) (M : MsgT K mg CM) (TC : Tup K mg "TO_CENTRE" [1, 5]) (dM : Def P w K mg base "message_in" 4 ["row", "kinds"] (spMsgIn K CM))
    (dI : Mth P w K mg base C "is_clear" 2 ["self"] (spIsClear C)) (dP : Mth P w K mg base C "take_pass" 5 ["self", "message"] (spTakePass C CM)) (dL : Mth P w K mg base C "take_locked" 1 ["self", "message"] (spTakeLocked C CM)) (dT : Mth P w K mg base C "tell" 1 ["self", "what"] (spTell C)) :
    FnOk P w K mg base CX0 6 f fd ["self", "row"] (spCHeard K C) := by
  obtain ⟨fM, fdM, mM, kM, bM, GM⟩ := dM.ex
  obtain ⟨fI, fdI, mI, bI, GI⟩ := dI.ex
  obtain ⟨fP, fdP, mP, bP, GP⟩ := dP.ex
  obtain ⟨fL, fdL, mL, bL, GL⟩ := dL.ex
  obtain ⟨fT, fdT, mT, bT, GT⟩ := dT.ex
  obtain ⟨tg, mTC, hT⟩ := TC.ex
  refine F.ok scCHeard (fun vs H Q E h => ?_) (fun cdv A outer s H vs Q E hr h => ?_)
  · obtain ⟨A, c, r, l, rfl, _⟩ := h
    rfl
  · obtain ⟨B, c, r, l, rfl, gat, hS, hb, k⟩ := h
    have hr4 : Room 4 _ := hr.mono (by decide)
    have hr2 : Room 2 _ := hr.mono (by decide)
    have hr1 : Room 1 _ := hr.mono (by decide)
    refine ⟨_, pss_cons (ps_set (i := 2) scCHeard.nd rfl (.inl rfl) (pe_call GM hr4 rfl mM kM bM .nil pass0 (pa_cons (pv 1) (pa_cons (pe_glob (v := .ref tg) rfl mTC rfl) pa_nil))))
      (pss_cons (ps_if (PW.pt (pw_or (pt_cmpR op_isN (pv 2) pe_non (nomark _)) (pw_or1 (pt_cmpR op_ge (pe_fld (pv 2) rfl) (pe_fld (pv 0) rfl) (nomark _))))) (pss_one (ps_ret (pe_gi rfl T.gNOT_RIGHT_centres))) pss_nil)
      (pss_cons (ps_set (i := 3) scCHeard.nd rfl (.inl rfl) (pe_meth0 (pv 0) G.cl mI GI hr2 bI .nil pass0))
      (pss_cons (ps_if (pt_cmpR op_eq (pe_fld (pv 2) rfl) (pe_gi rfl T.gPASS) (nomark _)) (pss_one (ps_expr (pe_meth (pv 0) G.cl mP GP hr bP .nil pass0 (pa_cons (pv 2) pa_nil))))
        (pss_one (ps_expr (pe_meth (pv 0) G.cl mL GL hr1 bL .nil pass0 (pa_cons (pv 2) pa_nil)))))
      (pss_cons (ps_if (PW.pt (pw_and (pt_val (pe_meth0 (pv 0) G.cl mI GI hr2 bI .nil pass0)) (pw_and1 (pt_not (pt_val (pv 3)))))) (pss_one (ps_expr (pe_meth (pv 0) G.cl mT GT hr1 bT .nil pass0 (pa_cons (pe_gi rfl T.gCLEAR) pa_nil)))) pss_nil)
      (pss_one (ps_ret pe_int)))))), ?_⟩
    refine ⟨_, rfl, r, tg, l, [1, 5], rfl, hS, hT H, hb, (by decide), fun e H1 s1 => ?_, fun m e H1 p s1 hm => ?_⟩
    · refine ⟨_, rfl, rfl, _, rfl, ?_⟩
      refine iteD (fun _ => iteT ?_) (fun z => absurd rfl z)
      refine k H1 B c [] (-71) ?_ (gat.stepSame s1)
      unfold Km259.Centre.does
      dsimp only
      rw [e]
    · have gat1 := gat.same s1
      have S1 := gat.stepSame s1
      obtain ⟨dx, hd⟩ := gat1.obj
      obtain ⟨mz, md, hm0⟩ := id hm
      refine ⟨_, rfl, rfl, _, rfl, ?_⟩
      refine iteD (fun z => by cases z) (fun _ => ?_)
      refine ⟨_, rfl, p, CM, md, _, _, rfl, hm0, M.cl, M.gate, mFs_gate _ _ _ _ _ _, _, rfl, B.a, C, dx, _, _, rfl, hd, G.cl, G.gates, cFs_gates _ _ _ _ _ _ _ _, _, _, rfl, rfl, _, rfl, ?_⟩
      refine iteD (fun z => ?_) (fun z => ?_)
      · refine k H1 B c [] (-71) ?_ S1
        unfold Km259.Centre.does
        dsimp only
        rw [e]
        dsimp only
        rw [if_pos (show c.gates ≤ m.gate by unfold Km259.Centre.gates; omega)]
      · have hg : m.gate < c.had.length := by omega
        have hng : ¬ c.gates ≤ m.gate := by
          unfold Km259.Centre.gates
          omega
        have ed : ∀ (d : Km259.Centre) (ths : List Km259.Told), d = (if m.kind = 1 then c.pass m else cLocked c m) → ths = (if m.kind = 1 then hadTold d m else []) →
            c.does (.cHeard l l.length) = (d, ths ++ (if d.clear = true ∧ c.clear = false then [.cTells 1 d.lock] else []), .num 0) := by
          intro d ths ed et
          unfold Km259.Centre.does
          dsimp only
          rw [e]
          dsimp only
          rw [if_neg hng]
          by_cases k1 : m.kind = 1
          · rw [if_pos k1] at ed et
            rw [if_pos k1, et, ed]
            unfold hadTold
            by_cases kn : m.number ≤ (c.pass m).had.getD m.gate 0
            · rw [if_pos ⟨k1, kn⟩, if_pos kn]
            · rw [if_neg (fun z => kn z.2), if_neg kn]
          · rw [if_neg k1] at ed et
            have hn : ¬ (m.kind = 1 ∧ m.number ≤ (cLocked c m).had.getD m.gate 0) := fun z => k1 z.1
            rw [if_neg k1, et, ed]
            show (cLocked c m, (if m.kind = 1 ∧ m.number ≤ (cLocked c m).had.getD m.gate 0 then [Km259.Told.cSend m.gate (Km259.Msg.bytes ⟨2, m.gate, 0, m.number, 0⟩)] else []) ++ (if (cLocked c m).clear = true ∧ c.clear = false then [Km259.Told.cTells 1 (cLocked c m).lock] else []), Km259.Ans.num 0) = _
            rw [if_neg hn]
        -- is_clear; was it clear before
        refine ⟨_, rfl, B.a, dx, _, rfl, hd, cFs_no_is_clear _ _ _ _ _ _ _ _, B, c, [], rfl, gat1, fun H2 s2 => ?_⟩
        have gat2 := gat1.same s2
        have S2 := S1.trans (gat1.stepSame s2)
        have hm2 : MsgAt CM H2 p m := ⟨mz, md, s2 _ _ hm0⟩
        have fin : ∀ (H3 : Hp) (B3 : CA) (d : Km259.Centre) (ths : List Km259.Told), CStep C H B H3 B3 d ths → ths.length ≤ 1000 → d = (if m.kind = 1 then c.pass m else cLocked c m) → ths = (if m.kind = 1 then hadTold d m else []) →
            tSeq (tIfS (tAnd (tB (tMeth C "is_clear" (spIsClear C) [] E0 (tVar 0) tNil)) (tNot (tB (tVar 3)))) (tDrop (tMeth C "tell" (spTell C) [] E0 (tVar 0) (tCons (tC (.int 1)) tNil))) tNext) (tRet (tC (.int 0)))
              { nx := fun _ H' => Q .non H', rt := Q } [some (.ref B.a), some (.ref r), some (.ref p), some (.bl c.clear)] H3 := by
          intro H3 B3 d ths S3 hl e1 e2
          have ed' := ed d ths e1 e2
          obtain ⟨d3, hd3⟩ := S3.ok.obj
          rw [S3.same] at hd3
          refine ⟨_, rfl, B.a, d3, _, rfl, hd3, cFs_no_is_clear _ _ _ _ _ _ _ _, B3, d, ths, one_ref S3.same, S3.ok, fun H4 s4 => ⟨_, rfl, ?_⟩⟩
          have S4 := S3.trans (S3.ok.stepSame s4)
          have quiet : ¬ (d.clear = true ∧ c.clear = false) → Q (.int 0) H4 := fun z => by
            rw [if_neg z, List.append_nil] at ed'
            exact k H4 B3 d ths 0 ed' S4
          cases c1 : d.clear with
          | false => exact iteF (quiet fun z => by rw [c1] at z; exact Bool.noConfusion z.1)
          | true =>
            refine iteT ⟨_, rfl, _, rfl, ?_⟩
            cases c2 : c.clear with
            | true => exact iteF (quiet fun z => by rw [c2] at z; exact Bool.noConfusion z.2)
            | false =>
              refine iteT ⟨_, rfl, B.a, d3, _, rfl, s4 _ _ hd3, cFs_no_tell _ _ _ _ _ _ _ _, B3, d, ths, 1, two_refs S3.same _, S3.ok.same s4, hl, fun H5 A5 S5 => ?_⟩
              rw [if_pos ⟨c1, c2⟩] at ed'
              exact k H5 A5 d _ 0 ed' (S4.trans S5)
        refine ⟨_, rfl, p, CM, md, _, _, rfl, s2 _ _ hm0, M.cl, M.kind, mFs_kind _ _ _ _ _ _, rfl, _, rfl, ?_⟩
        refine iteI (fun k1 => ?_) (fun k1 => ?_)
        · have k1' : m.kind = 1 := by omega
          refine ⟨_, rfl, B.a, dx, _, rfl, s2 _ _ hd, cFs_no_take_pass _ _ _ _ _ _ _ _, _, rfl, B, c, p, m, rfl, gat2, hm2, rightOf_in e, hg, fun H3 A3 S3 => ?_⟩
          refine fin H3 A3 _ _ (S2.trans S3) ?_ (by rw [if_pos k1']) (by rw [if_pos k1'])
          unfold hadTold
          split <;> simp
        · have k1' : ¬ m.kind = 1 := fun z => k1 (by rw [z]; rfl)
          refine ⟨_, rfl, B.a, dx, _, rfl, s2 _ _ hd, cFs_no_take_locked _ _ _ _ _ _ _ _, _, rfl, B, c, p, m, rfl, gat2, hm2, hg, fun H3 A3 S3 => ?_⟩
          exact fin H3 A3 _ _ (S2.trans S3) (by simp) (by rw [if_neg k1']) (by rw [if_neg k1'])
/-! ### tick -/
def spCTick (C : Addr) : Sp := fun vs H Q _ => ∃ (A : CA) (c : Km259.Centre), vs = [.ref A.a] ∧ CentreAt C H A c [] ∧ CDoes C H A c .cTick Q
theorem scCTick : FnScope ["self", "gate"] ["self"] (defScope sCTick) := ⟨rfl, rfl, rfl, by decide +kernel, rfl, by decide +kernel, by decide +kernel⟩
theorem ok_cTick {f : Addr} {fd : FuncData} (F : Fun K "tick" "Centre.tick" sCTick f fd) (T : Txt K mg) (G : CenT K mg C) (dS : Mth P w K mg base C "send" 4 ["self", "kind", "gate", "number", "tag"] (spSend C)) (dA : Mth P w K mg base C "send_all" 5 ["self", "kind"] (spSendAll C)) :
    FnOk P w K mg base CX0 6 f fd ["self"] (spCTick C) := by
  obtain ⟨fS, fdS, mS, bS, GS⟩ := dS.ex
  obtain ⟨fA, fdA, mA, bA, GA'⟩ := dA.ex
  refine F.ok scCTick (fun vs H Q E h => ?_) (fun cdv A outer s H vs Q E hr h => ?_)
  · obtain ⟨A, c, rfl, _⟩ := h
    rfl
  · obtain ⟨B, c, rfl, gat, k⟩ := h
    obtain ⟨dx, hd⟩ := gat.obj
    have hi := gat.ok.hi
    have hr4 : Room 4 _ := hr.mono (by decide)
    refine ⟨_, pss_cons (ps_fldaug (pv 0) pe_int in_add)
      (pss_cons (ps_if (pt_cmpR op_eq (pe_op op_mod (pe_fld (pv 0) rfl) (pe_gi rfl T.gEVERY_centres)) pe_int (nomark _))
        (pss_one (ps_if (pt_val (pe_fld (pv 0) rfl))
          (pss_one (ps_for PassesOwn.never rfl (pi_range1 rfl T.range (pa_cons (pe_fld (pv 0) rfl) pa_nil)) (pg_name (i := 1) scCTick.nd rfl (.inl rfl))
            (pss_one (ps_if (pt_cmpR op_isN (pe_ix ix_list (pe_fld (pv 0) rfl) (pv 1) (fun _ _ => rfl)) pe_non (nomark _))
              (pss_one (ps_expr (pe_meth (pv 0) G.cl mS GS hr4 bS .nil pass0 (pa_cons (pe_gi rfl T.gLOCK) (pa_cons (pv 1) (pa_cons pe_int (pa_cons (pe_fld (pv 0) rfl) pa_nil))))))) pss_nil))))
          (pss_one (ps_if (pt_cmpR op_ne (pe_fld (pv 0) rfl) pe_int (nomark _)) (pss_one (ps_expr (pe_meth (pv 0) G.cl mA GA' hr bA .nil pass0 (pa_cons (pe_gi rfl T.gFREE) pa_nil)))) pss_nil)))) pss_nil)
      (pss_one (ps_ret pe_int))), ?_⟩
    refine ⟨_, rfl, B.a, C, dx, _, _, rfl, hd, G.cl, G.ticks, cFs_ticks _ _ _ _ _ _ _ _, _, _, rfl, rfl, dx, _, hd, (by show 8 < 1000; decide), ?_⟩
    have ht : (B.tk + 1) % 10 = (c.ticks + 1) % 10 := by
      have := gat.tick
      omega
    have S : CStep C H B (upd H B.a (.ins C dx (putF "ticks" (.int ((B.tk : Int) + 1)) (cR c B)))) { B with tk := B.tk + 1 } { c with ticks := (c.ticks + 1) % 10 } [] := by
      rw [cFs_put_ticks]
      exact gat.put (c' := { c with ticks := (c.ticks + 1) % 10 }) (tk := B.tk + 1) hd rfl rfl rfl ht
    have g1 := S.ok
    obtain ⟨dy, hd1⟩ := g1.obj
    have ed : c.does .cTick = ({ c with ticks := (c.ticks + 1) % 10 }, if (c.ticks + 1) % 10 ≠ 0 then [] else if c.on then Km259.toAll c 4 ((List.range c.gates).filter fun g => (c.confirmed.getD g none).isNone) else if c.lock = 0 then [] else Km259.toAll c 6 (List.range c.gates), .num 0) := rfl
    refine ⟨_, rfl, B.a, C, dy, _, _, rfl, hd1, G.cl, G.ticks, cFs_ticks _ _ _ _ _ _ _ _, _, _, rfl, rfl, (by show (0 : Int) < 10; decide), rfl, _, rfl, ?_⟩
    refine iteI (fun z => ?_) (fun z => ?_)
    · have c1 : ¬ (c.ticks + 1) % 10 ≠ 0 := by
        have z : ((B.tk + 1 : Nat) : Int) % 10 = 0 := z
        omega
      rw [if_neg c1] at ed
      refine ⟨_, rfl, B.a, C, dy, _, _, rfl, hd1, G.cl, G.is_on, cFs_is_on _ _ _ _ _ _ _ _, _, rfl, ?_⟩
      refine ite2 (fun con => ?_) (fun con => ?_)
      · have con : c.on = true := con
        rw [if_pos con] at ed
        refine ⟨_, rfl, B.a, C, dy, _, _, rfl, hd1, G.cl, G.gates, cFs_gates _ _ _ _ _ _ _ _, (c.had.length : Int), rfl, by omega, by omega, ?_⟩
        rw [Int.toNat_natCast]
        refine for_range (n := c.had.length) (fun i σ H' => ∃ (v : Option V) (A' : CA), σ = [some (.ref B.a), v] ∧ CStep C H B H' A' { c with ticks := (c.ticks + 1) % 10 } (Km259.toAll c 4 ((List.range i).filter fun g => (c.confirmed.getD g none).isNone))) ⟨none, _, rfl, S⟩ ?_ ?_
        · rintro i σ H' hlt ⟨v, A', rfl, S1⟩
          obtain ⟨dz, hd2⟩ := S1.ok.obj
          rw [S1.same] at hd2
          have hic : i < c.confirmed.length := by
            rw [gat.ok.len]
            exact hlt
          have hat := conf_at (c := c) hic
          refine ⟨_, rfl, B.a, C, dz, _, _, rfl, hd2, G.cl, G.confirmed, cFs_confirmed _ _ _ _ _ _ _ _, _, rfl, A'.lc, _, _, _, rfl, rfl, SqL.of S1.ok.cl, at_of (j := i) (Int.zero_add _) hat, rfl, _, rfl, ?_⟩
          rw [List.range_succ, List.filter_append]
          have hlen : (Km259.toAll c 4 ((List.range i).filter fun g => (c.confirmed.getD g none).isNone)).length ≤ 1000 := by
            rw [toAll_len]
            refine Nat.le_trans (List.length_filter_le _ _) ?_
            rw [List.length_range]
            omega
          cases eo : c.confirmed.getD i none with
          | none =>
            refine iteD (fun _ => ?_) (fun z => absurd rfl z)
            refine ⟨_, rfl, B.a, dz, _, rfl, hd2, cFs_no_send _ _ _ _ _ _ _ _, _, rfl, _, rfl, B.a, C, dz, _, _, rfl, hd2, G.cl, G.number, cFs_number _ _ _ _ _ _ _ _, A', _, _, 4, i, 0, c.lock, ?_, S1.ok, hlen, fun H2 A2 S2 => ?_⟩
            · rw [S1.same, Int.zero_add]
              rfl
            · refine ⟨some (.int (0 + (i : Int))), A2, rfl, ?_⟩
              have ef : [i].filter (fun g => (c.confirmed.getD g none).isNone) = [i] := by
                rw [List.filter_cons_of_pos (by rw [eo]; rfl)]
                rfl
              rw [ef]
              have ea : Km259.toAll c 4 ((List.range i).filter (fun g => (c.confirmed.getD g none).isNone) ++ [i]) = Km259.toAll c 4 ((List.range i).filter fun g => (c.confirmed.getD g none).isNone) ++ [.cSend i (Km259.Msg.bytes ⟨4, i, 0, 0, c.lock⟩)] := by
                unfold Km259.toAll
                rw [List.map_append]
                rfl
              rw [ea]
              exact S1.trans S2
          | some n =>
            refine iteD (fun z => by cases z) (fun _ => ?_)
            refine ⟨some (.int (0 + (i : Int))), A', rfl, ?_⟩
            have ef : [i].filter (fun g => (c.confirmed.getD g none).isNone) = [] := by
              rw [List.filter_cons_of_neg (by rw [eo]; intro z; cases z)]
              rfl
            rw [ef, List.append_nil]
            exact S1
        · rintro σ H' ⟨v, A', rfl, S1⟩
          exact k H' A' _ _ 0 ed S1
      · have con : ¬ c.on = true := con
        rw [if_neg con] at ed
        refine ⟨_, rfl, B.a, C, dy, _, _, rfl, hd1, G.cl, G.number, cFs_number _ _ _ _ _ _ _ _, rfl, _, rfl, ?_⟩
        refine iteJ (fun z => ?_) (fun z => ?_)
        · have z : (c.lock : Int) ≠ 0 := z
          rw [if_neg (show ¬ c.lock = 0 by omega)] at ed
          refine ⟨_, rfl, B.a, dy, _, rfl, hd1, cFs_no_send_all _ _ _ _ _ _ _ _, { B with tk := B.tk + 1 }, _, 6, rfl, g1, fun H2 A2 S2 => ?_⟩
          exact k H2 A2 _ _ 0 ed (S.trans S2)
        · have z : (c.lock : Int) = 0 := z
          rw [if_pos (show c.lock = 0 by omega)] at ed
          exact k _ _ _ _ 0 ed S
    · have c1 : (c.ticks + 1) % 10 ≠ 0 := by
        have z : ((B.tk + 1 : Nat) : Int) % 10 ≠ 0 := z
        omega
      rw [if_pos c1] at ed
      exact k _ _ _ _ 0 ed S
/-! ### state -/
def spCState (C : Addr) : Sp := fun vs H Q _ => ∃ (A : CA) (c : Km259.Centre), vs = [.ref A.a] ∧ CentreAt C H A c [] ∧
  ∀ (H' : Hp) (p : Addr) (l : List Nat), c.does .cState = (c, [], .words l) → Same H H' → H p = none → H' p = some (.lst (iv l)) → Q (.ref p) H'
theorem scCState : FnScope ["self", "bits", "gate"] ["self"] (defScope sCState) := ⟨rfl, rfl, rfl, by decide +kernel, rfl, by decide +kernel, by decide +kernel⟩
def bitOf (c : Km259.Centre) (g : Nat) : Nat := if (c.confirmed.getD g none).isSome then 2 ^ g else 0
theorem ok_cState {f : Addr} {fd : FuncData} (F : Fun K "state" "Centre.state" sCState f fd) (T : Txt K mg) (G : CenT K mg C) (dM : Mth P w K mg base C "many_within" 1 ["self"] (spMany C)) (dI : Mth P w K mg base C "is_clear" 2 ["self"] (spIsClear C)) :
    FnOk P w K mg base CX0 3 f fd ["self"] (spCState C) := by
  obtain ⟨fM, fdM, mM, bM, GM⟩ := dM.ex
  obtain ⟨fI, fdI, mI, bI, GI⟩ := dI.ex
  refine F.ok scCState (fun vs H Q E h => ?_) (fun cdv A outer s H vs Q E hr h => ?_)
  · obtain ⟨A, c, rfl, _⟩ := h
    rfl
  · obtain ⟨B, c, rfl, gat, k⟩ := h
    obtain ⟨dx, hd⟩ := gat.obj
    have hi := gat.ok.hi
    have hr1 : Room 1 _ := hr.mono (by decide)
    have ed : c.does .cState = (c, [], .words [if c.on then c.lock else 0, if c.on then ((List.range c.gates).map (bitOf c)).foldl (· + ·) 0 else 0, many c, Km259.b2n c.clear]) := rfl
    refine ⟨_, pss_cons (ps_if (pt_not (pt_val (pe_fld (pv 0) rfl))) (pss_one (ps_ret (pe_lst (pa_cons pe_int (pa_cons pe_int (pa_cons (pe_meth0 (pv 0) G.cl mM GM hr1 bM .nil pass0) (pa_cons pe_int pa_nil))))))) pss_nil)
      (pss_cons (ps_set (i := 1) scCState.nd rfl (.inl rfl) pe_int)
      (pss_cons (ps_for PassesOwn.never rfl (pi_range1 rfl T.range (pa_cons (pe_fld (pv 0) rfl) pa_nil)) (pg_name (i := 2) scCState.nd rfl (.inl rfl))
        (pss_one (ps_if (pt_cmpR op_notN (pe_ix ix_list (pe_fld (pv 0) rfl) (pv 2) (fun _ _ => rfl)) pe_non (nomark _)) (pss_one (ps_aug (i := 1) scCState.nd rfl (.inl rfl) (pe_op op_shl pe_int (pv 2)) ip_add)) pss_nil)))
      (pss_one (ps_ret (pe_lst (pa_cons (pe_fld (pv 0) rfl) (pa_cons (pv 1) (pa_cons (pe_meth0 (pv 0) G.cl mM GM hr1 bM .nil pass0) (pa_cons (pe_callTy call_int1 rfl T.int PyProof.Rows.boot_int (pa_cons (pe_meth0 (pv 0) G.cl mI GI hr bI .nil pass0) pa_nil)) pa_nil))))))))), ?_⟩
    refine ⟨_, rfl, B.a, C, dx, _, _, rfl, hd, G.cl, G.is_on, cFs_is_on _ _ _ _ _ _ _ _, _, rfl, ?_⟩
    cases con : c.on with
    | false =>
      refine iteT ⟨_, rfl, B.a, dx, _, rfl, hd, cFs_no_many_within _ _ _ _ _ _ _ _, B, c, [], rfl, gat, fun H1 s1 => ?_⟩
      refine ⟨(by show 4 ≤ sizeLine; decide), fun p hp => ?_⟩
      refine k _ p _ ed (same_new s1 (s1.free hp)) (s1.free hp) ?_
      have hc : c.clear = false := not_clear gat.ok fun z => by
        rw [con] at z
        exact Bool.noConfusion z.1
      rw [upd_same, con, hc]
      rfl
    | true =>
      refine iteF ⟨_, rfl, B.a, C, dx, _, _, rfl, hd, G.cl, G.gates, cFs_gates _ _ _ _ _ _ _ _, (c.had.length : Int), rfl, by omega, by omega, ?_⟩
      rw [Int.toNat_natCast]
      refine for_range (n := c.had.length) (fun i σ H' => ∃ v : Option V, σ = [some (.ref B.a), some (.int ((((List.range i).map (bitOf c)).foldl (· + ·) 0 : Nat) : Int)), v] ∧ H' = H) ⟨none, rfl, rfl⟩ ?_ ?_
      · rintro i σ H' hlt ⟨v, rfl, rfl⟩
        have hic : i < c.confirmed.length := by
          rw [gat.ok.len]
          exact hlt
        refine ⟨_, rfl, B.a, C, dx, _, _, rfl, hd, G.cl, G.confirmed, cFs_confirmed _ _ _ _ _ _ _ _, _, rfl, B.lc, _, _, _, rfl, rfl, SqL.of gat.cl, at_of (j := i) (Int.zero_add _) (conf_at hic), rfl, _, rfl, ?_⟩
        have er : ((List.range (i + 1)).map (bitOf c)).foldl (· + ·) 0 = ((List.range i).map (bitOf c)).foldl (· + ·) 0 + bitOf c i := by
          rw [List.range_succ, List.map_append, List.foldl_append]
          rfl
        cases eo : c.confirmed.getD i none with
        | none =>
          have eb : bitOf c i = 0 := by
            unfold bitOf
            rw [eo]
            rfl
          refine iteF ⟨some (.int (0 + (i : Int))), ?_, rfl⟩
          rw [er, eb, Nat.add_zero]
          rfl
        | some n =>
          have eb : bitOf c i = 2 ^ i := by
            unfold bitOf
            rw [eo]
            rfl
          refine iteT ⟨_, rfl, _, rfl, _, _, rfl, rfl, ⟨by omega, by omega, by decide⟩, _, _, rfl, rfl, ?_⟩
          refine ⟨some (.int (0 + (i : Int))), ?_, rfl⟩
          have ei : (0 + (i : Int)).toNat = i := by omega
          have e2 : ((((List.range i).map (bitOf c)).foldl (· + ·) 0 : Nat) : Int) + 1 * 2 ^ (0 + (i : Int)).toNat = ((((List.range (i + 1)).map (bitOf c)).foldl (· + ·) 0 : Nat) : Int) := by
            rw [er, eb, ei, Int.one_mul, Int.natCast_add, Int.natCast_pow]
            rfl
          show [some (V.ref B.a), some (V.int (((((List.range i).map (bitOf c)).foldl (· + ·) 0 : Nat) : Int) + 1 * 2 ^ (0 + (i : Int)).toNat)), some (V.int (0 + (i : Int)))] = _
          rw [e2]
      · rintro σ H' ⟨v, rfl, rfl⟩
        refine ⟨_, rfl, B.a, C, dx, _, _, rfl, hd, G.cl, G.number, cFs_number _ _ _ _ _ _ _ _, _, rfl, _, rfl, B.a, dx, _, rfl, hd, cFs_no_many_within _ _ _ _ _ _ _ _, B, c, [], rfl, gat, fun H1 s1 => ?_⟩
        refine ⟨_, rfl, B.a, dx, _, rfl, s1 _ _ hd, cFs_no_is_clear _ _ _ _ _ _ _ _, B, c, [], rfl, gat.same s1, fun H2 s2 => ?_⟩
        refine .inr ⟨c.clear, rfl, (by show 4 ≤ sizeLine; decide), fun p hp => ?_⟩
        have s12 := s1.trans s2
        refine k _ p _ ed (same_new s12 (s12.free hp)) (s12.free hp) ?_
        rw [upd_same, con, b2n_int]
        rfl
end
end Cy

namespace Cy
open Km259Neutral (nums nats S)

/-! ### the flat list of calls -/
def NUMB : List Nat := [2, 1, 1, 1, 1, 1, 1, 2, 3, 1, 1, 1]
def ROWSL : List Nat := [0, 0, 0, 0, 1, 0, 0, 0, 0, 1, 0, 0]
theorem nums_len (l : List Nat) : (nums l).length = l.length := List.length_map _
theorem nums_drop (l : List Nat) (k : Nat) : (nums l).drop k = nums (l.drop k) := by
  unfold nums
  rw [List.map_drop]
theorem nums_take (l : List Nat) (k : Nat) : (nums l).take k = nums (l.take k) := by
  unfold nums
  rw [List.map_take]
theorem nats_nums (l : List Nat) : nats (nums l) = l := by
  unfold nats nums
  rw [List.map_map]
  have e : l.map (Int.toNat ∘ fun (x : Nat) => (x : Int)) = l.map id := List.map_congr_left fun x _ => Int.toNat_natCast x
  rw [e, List.map_id]
/-- one call by its parts -/
def callI (p : Nat) (xs r : List Nat) : List (List Int) := ((p : Int) :: nums xs) :: (if ROWSL.getD p 0 = 0 then [] else [nums r])
structure Reads (ms : List Nat) (i p : Nat) (xs r : List Nat) (e : Nat) : Prop where
  hp : ms[i]? = some p
  lt : p < 12
  fit : i + 1 + NUMB.getD p 0 ≤ ms.length
  hx : xs = (ms.drop (i + 1)).take (NUMB.getD p 0)
  hr : (ROWSL.getD p 0 = 0 ∧ r = [] ∧ e = i + 1 + NUMB.getD p 0) ∨
    (ROWSL.getD p 0 = 1 ∧ ∃ q, ms[i + 1 + NUMB.getD p 0]? = some q ∧ r = (ms.drop (i + 1 + NUMB.getD p 0 + 1)).take q ∧ e = i + 1 + NUMB.getD p 0 + 1 + q ∧ e ≤ ms.length)
theorem Reads.len {ms : List Nat} {i p e : Nat} {xs r : List Nat} (R : Reads ms i p xs r e) : xs.length = NUMB.getD p 0 := by
  rw [R.hx, List.length_take, List.length_drop]
  have := R.fit
  omega
theorem Reads.more {ms : List Nat} {i p e : Nat} {xs r : List Nat} (R : Reads ms i p xs r e) : i < e ∧ e ≤ ms.length := by
  have := R.fit
  rcases R.hr with ⟨_, _, h⟩ | ⟨_, q, _, _, h, h2⟩ <;> omega
theorem shape_nat {p n k : Nat} (h : PyKm259.shape (p : Int) = some (n, k)) : p < 12 ∧ n = NUMB.getD p 0 ∧ k = ROWSL.getD p 0 := by
  by_cases hp : p < 12
  · refine ⟨hp, ?_⟩
    have all : ∀ q : Fin 12, ∀ n k, PyKm259.shape ((q.val : Nat) : Int) = some (n, k) → n = NUMB.getD q.val 0 ∧ k = ROWSL.getD q.val 0 := by
      intro q
      have e : PyKm259.shape ((q.val : Nat) : Int) = some (NUMB.getD q.val 0, ROWSL.getD q.val 0) := by
        revert q
        decide
      intro n k hh
      rw [e] at hh
      have z := Option.some.inj hh
      exact ⟨(Prod.mk.inj z).1.symm, (Prod.mk.inj z).2.symm⟩
    exact all ⟨p, hp⟩ n k h
  · unfold PyKm259.shape at h
    rw [if_neg (by omega), if_neg (by omega), if_neg (by omega), if_neg (by omega), if_neg (by omega), if_neg (by omega), if_neg (by omega), if_neg (by omega), if_neg (by omega), if_neg (by omega), if_neg (by omega), if_neg (by omega)] at h
    cases h
theorem rowsL_01 (p : Nat) : ROWSL.getD p 0 = 0 ∨ ROWSL.getD p 0 = 1 := by
  by_cases hp : p < 12
  · have all : ∀ q : Fin 12, ROWSL.getD q.val 0 = 0 ∨ ROWSL.getD q.val 0 = 1 := by decide
    exact all ⟨p, hp⟩
  · left
    rw [List.getD_eq_getElem?_getD, List.getElem?_eq_none (by show 12 ≤ p; omega)]
    rfl
theorem drop_cons {l : List Nat} {i : Nat} (h : i < l.length) : ∃ p, l[i]? = some p ∧ l.drop i = p :: l.drop (i + 1) := by
  exact ⟨l[i], List.getElem?_eq_getElem h, List.drop_eq_getElem_cons h⟩
/-- a call is read -/
theorem call_reads {ms : List Nat} {i : Nat} {c : List (List Int)} {t : List Int} (hi : i < ms.length) (h : PyFlat.call PyKm259.shape (nums (ms.drop i)) = some (c, t)) :
    ∃ p xs r e, Reads ms i p xs r e ∧ c = callI p xs r ∧ t = nums (ms.drop e) := by
  obtain ⟨p, hp, ed⟩ := drop_cons hi
  rw [ed] at h
  have en : nums (p :: ms.drop (i + 1)) = (p : Int) :: nums (ms.drop (i + 1)) := rfl
  rw [en] at h
  unfold PyFlat.call at h
  split at h
  · cases h
  · rename_i a r0 eq
    cases eq
    split at h
    · cases h
    · rename_i n k es
      obtain ⟨h12, rfl, rfl⟩ := shape_nat es
      rw [nums_len, List.length_drop] at h
      split at h
      · cases h
      · rename_i hn
        have fit : i + 1 + NUMB.getD p 0 ≤ ms.length := by omega
        rw [nums_drop, List.drop_drop, nums_take] at h
        have ex : i + 1 + NUMB.getD p 0 = NUMB.getD p 0 + (i + 1) := by omega
        rcases rowsL_01 p with hk | hk
        · rw [hk] at h
          have z : some (([] : List (List Int)), nums (ms.drop (i + 1 + NUMB.getD p 0))) = PyFlat.rows 0 (nums (ms.drop (i + 1 + NUMB.getD p 0))) := rfl
          rw [← z] at h
          have z2 := Prod.mk.inj (Option.some.inj h)
          refine ⟨p, (ms.drop (i + 1)).take (NUMB.getD p 0), [], _, ⟨hp, h12, fit, rfl, .inl ⟨hk, rfl, rfl⟩⟩, ?_, z2.2.symm⟩
          unfold callI
          rw [if_pos hk]
          exact z2.1.symm
        · rw [hk] at h
          unfold PyFlat.rows at h
          split at h
          · cases h
          · rename_i xs' t' er
            split at er
            · cases er
            · rename_i x s' erow
              have z0 : PyFlat.rows 0 s' = some ([], s') := rfl
              rw [z0] at er
              have z1 := Prod.mk.inj (Option.some.inj er)
              have z2 := Prod.mk.inj (Option.some.inj h)
              unfold PyFlat.row at erow
              split at erow
              · cases erow
              · rename_i q' r' eq
                split at erow
                · rename_i hq
                  have z3 := Prod.mk.inj (Option.some.inj erow)
                  have hlt : i + 1 + NUMB.getD p 0 < ms.length := by
                    apply Classical.byContradiction
                    intro hh
                    rw [List.drop_eq_nil_of_le (by omega)] at eq
                    cases eq
                  obtain ⟨q, hqq, edq⟩ := drop_cons hlt
                  rw [edq] at eq
                  have z4 := List.cons.inj (show (q : Int) :: nums (ms.drop (i + 1 + NUMB.getD p 0 + 1)) = q' :: r' from eq)
                  obtain ⟨rfl, rfl⟩ := z4
                  rw [nums_len, List.length_drop, Int.toNat_natCast] at hq
                  rw [Int.toNat_natCast, nums_take, nums_drop, List.drop_drop] at z3
                  refine ⟨p, (ms.drop (i + 1)).take (NUMB.getD p 0), (ms.drop (i + 1 + NUMB.getD p 0 + 1)).take q, i + 1 + NUMB.getD p 0 + 1 + q, ⟨hp, h12, fit, rfl, .inr ⟨hk, q, hqq, rfl, rfl, by omega⟩⟩, ?_, ?_⟩
                  · unfold callI
                    rw [if_neg (by omega), ← z2.1, ← z1.1, ← z3.1]
                  · rw [← z2.2, ← z1.2, ← z3.2]
                · cases erow
theorem calls_more {ms : List Nat} {i f : Nat} {cs : List (List (List Int))} (hi : i < ms.length) (h : PyFlat.calls PyKm259.shape f (nums (ms.drop i)) = some cs) :
    ∃ p xs r e cs' f', Reads ms i p xs r e ∧ cs = callI p xs r :: cs' ∧ PyFlat.calls PyKm259.shape f' (nums (ms.drop e)) = some cs' := by
  obtain ⟨p, hp, ed⟩ := drop_cons hi
  have en : nums (ms.drop i) = (p : Int) :: nums (ms.drop (i + 1)) := by
    rw [ed]
    rfl
  rw [en] at h
  cases f with
  | zero =>
    unfold PyFlat.calls at h
    cases h
  | succ f =>
    unfold PyFlat.calls at h
    rw [← en] at h
    split at h
    · cases h
    · rename_i c t ec
      obtain ⟨p', xs, r, e, R, rfl, rfl⟩ := call_reads hi ec
      split at h
      · cases h
      · rename_i cs' ecs
        exact ⟨p', xs, r, e, cs', f, R, (Option.some.inj h).symm, ecs⟩
theorem calls_end {ms : List Nat} {i f : Nat} {cs : List (List (List Int))} (hi : ms.length ≤ i) (h : PyFlat.calls PyKm259.shape f (nums (ms.drop i)) = some cs) : cs = [] := by
  rw [List.drop_eq_nil_of_le hi] at h
  have z : PyFlat.calls PyKm259.shape f (nums []) = some [] := by
    cases f <;> rfl
  rw [z] at h
  exact (Option.some.inj h).symm
/-! ### what may be asked of one call -/
structure Fine (p : Nat) (xs r : List Nat) : Prop where
  lt : p < 12
  len : xs.length = NUMB.getD p 0
  none : ROWSL.getD p 0 = 0 → r = []
  ctr : p < 7 → xs.getD 0 0 = 0
  gat : xs.getD 0 0 ≤ 3
  byt : ∀ b ∈ r, b < 256
/-- the call that is meant -/
def meant (p : Nat) (xs r : List Nat) : Km259.Call := match p with
  | 0 => .cStart (xs.getD 1 0)
  | 1 => .lock
  | 2 => .free
  | 3 => .fire
  | 4 => .cHeard r r.length
  | 5 => .cTick
  | 6 => .cState
  | 7 => .gStart (xs.getD 1 0)
  | 8 => .pass (xs.getD 1 0) (xs.getD 2 0)
  | 9 => .gHeard r r.length
  | 10 => .gTick
  | _ => .gState
theorem one_of {xs : List Nat} (h : xs.length = 1) : ∃ a, xs = [a] := by
  match xs, h with
  | [a], _ => exact ⟨a, rfl⟩
theorem two_of {xs : List Nat} (h : xs.length = 2) : ∃ a b, xs = [a, b] := by
  match xs, h with
  | [a, b], _ => exact ⟨a, b, rfl⟩
theorem three_of {xs : List Nat} (h : xs.length = 3) : ∃ a b c, xs = [a, b, c] := by
  match xs, h with
  | [a, b, c], _ => exact ⟨a, b, c, rfl⟩
theorem twelve {p : Nat} (h : p < 12) : p = 0 ∨ p = 1 ∨ p = 2 ∨ p = 3 ∨ p = 4 ∨ p = 5 ∨ p = 6 ∨ p = 7 ∨ p = 8 ∨ p = 9 ∨ p = 10 ∨ p = 11 := by omega
theorem nums_heard (r : List Nat) : (nats (nums r), (nums r).length) = (r, r.length) := by rw [nats_nums, nums_len]
theorem step_eq {p : Nat} {xs r : List Nat} (s : S) (F : Fine p xs r) : PyKm259.whole (callI p xs r) = callI p xs r ∧
    Km259Neutral.step s (callI p xs r) = if p < 7 then Km259Neutral.step0 s 0 (meant p xs r) else Km259Neutral.step1 s (xs.getD 0 0) (meant p xs r) := by
  have hl := F.len
  rcases twelve F.lt with h | h | h | h | h | h | h | h | h | h | h | h <;> subst h
  · obtain ⟨a, b, rfl⟩ := two_of hl
    have z : a = 0 := F.ctr (by decide)
    subst z
    exact ⟨rfl, rfl⟩
  · obtain ⟨a, rfl⟩ := one_of hl
    have z : a = 0 := F.ctr (by decide)
    subst z
    exact ⟨rfl, rfl⟩
  · obtain ⟨a, rfl⟩ := one_of hl
    have z : a = 0 := F.ctr (by decide)
    subst z
    exact ⟨rfl, rfl⟩
  · obtain ⟨a, rfl⟩ := one_of hl
    have z : a = 0 := F.ctr (by decide)
    subst z
    exact ⟨rfl, rfl⟩
  · obtain ⟨a, rfl⟩ := one_of hl
    have z : a = 0 := F.ctr (by decide)
    subst z
    refine ⟨rfl, ?_⟩
    show Km259Neutral.step0 s 0 (.cHeard (nats (nums r)) (nums r).length) = Km259Neutral.step0 s 0 (.cHeard r r.length)
    rw [nats_nums, nums_len]
  · obtain ⟨a, rfl⟩ := one_of hl
    have z : a = 0 := F.ctr (by decide)
    subst z
    exact ⟨rfl, rfl⟩
  · obtain ⟨a, rfl⟩ := one_of hl
    have z : a = 0 := F.ctr (by decide)
    subst z
    exact ⟨rfl, rfl⟩
  · obtain ⟨a, b, rfl⟩ := two_of hl
    exact ⟨rfl, rfl⟩
  · obtain ⟨a, b, c, rfl⟩ := three_of hl
    exact ⟨rfl, rfl⟩
  · obtain ⟨a, rfl⟩ := one_of hl
    refine ⟨rfl, ?_⟩
    show Km259Neutral.step1 s a (.gHeard (nats (nums r)) (nums r).length) = Km259Neutral.step1 s a (.gHeard r r.length)
    rw [nats_nums, nums_len]
  · obtain ⟨a, rfl⟩ := one_of hl
    exact ⟨rfl, rfl⟩
  · obtain ⟨a, rfl⟩ := one_of hl
    exact ⟨rfl, rfl⟩
/-- the bounds say it -/
theorem byte_of {r : List Nat} (h : (nums r).all (PyInside.within 0 255) = true) : ∀ b ∈ r, b < 256 := by
  intro b hb
  have z := List.all_eq_true.mp h (b : Int) (List.mem_map.mpr ⟨b, hb, rfl⟩)
  unfold PyInside.within at z
  rw [Bool.and_eq_true, decide_eq_true_eq, decide_eq_true_eq] at z
  omega
theorem each0 {lo hi : Int} {b : List (Int × Int)} {a : Nat} {l : List Nat} (h : PyInside.each ((lo, hi) :: b) (nums (a :: l)) = true) : (a : Int) ≤ hi := by
  have h : (PyInside.within lo hi (a : Int) && PyInside.each b (nums l)) = true := h
  rw [Bool.and_eq_true] at h
  have z := h.1
  unfold PyInside.within at z
  rw [Bool.and_eq_true, decide_eq_true_eq, decide_eq_true_eq] at z
  exact z.2
theorem fine_of {ms : List Nat} {i p e : Nat} {xs r : List Nat} (R : Reads ms i p xs r e) (h : PyInside.call PyKm259.bound (callI p xs r) = true) : Fine p xs r := by
  have hl := R.len
  have hn : ROWSL.getD p 0 = 0 → r = [] := fun z => by
    rcases R.hr with ⟨_, h, _⟩ | ⟨h1, _⟩
    · exact h
    · omega
  have key : (p < 7 → xs.getD 0 0 = 0) ∧ xs.getD 0 0 ≤ 3 ∧ ∀ b ∈ r, b < 256 := by
    rcases twelve R.lt with hp | hp | hp | hp | hp | hp | hp | hp | hp | hp | hp | hp <;> subst hp
    · obtain ⟨a, b, rfl⟩ := two_of hl
      have r0 := hn rfl
      subst r0
      have z := each0 (Bool.and_eq_true_iff.mp h).1
      exact ⟨fun _ => by show a = 0; omega, by show a ≤ 3; omega, fun b hb => nomatch hb⟩
    · obtain ⟨a, rfl⟩ := one_of hl
      have r0 := hn rfl
      subst r0
      have z := each0 (Bool.and_eq_true_iff.mp h).1
      exact ⟨fun _ => by show a = 0; omega, by show a ≤ 3; omega, fun b hb => nomatch hb⟩
    · obtain ⟨a, rfl⟩ := one_of hl
      have r0 := hn rfl
      subst r0
      have z := each0 (Bool.and_eq_true_iff.mp h).1
      exact ⟨fun _ => by show a = 0; omega, by show a ≤ 3; omega, fun b hb => nomatch hb⟩
    · obtain ⟨a, rfl⟩ := one_of hl
      have r0 := hn rfl
      subst r0
      have z := each0 (Bool.and_eq_true_iff.mp h).1
      exact ⟨fun _ => by show a = 0; omega, by show a ≤ 3; omega, fun b hb => nomatch hb⟩
    · obtain ⟨a, rfl⟩ := one_of hl
      have z := each0 (Bool.and_eq_true_iff.mp h).1
      have z2 : (decide (0 ≤ (nums r).length) && decide ((nums r).length ≤ 300) && (nums r).all (PyInside.within 0 255) && true) = true := (Bool.and_eq_true_iff.mp h).2
      have z3 := (Bool.and_eq_true_iff.mp (Bool.and_eq_true_iff.mp z2).1).2
      exact ⟨fun _ => by show a = 0; omega, by show a ≤ 3; omega, byte_of z3⟩
    · obtain ⟨a, rfl⟩ := one_of hl
      have r0 := hn rfl
      subst r0
      have z := each0 (Bool.and_eq_true_iff.mp h).1
      exact ⟨fun _ => by show a = 0; omega, by show a ≤ 3; omega, fun b hb => nomatch hb⟩
    · obtain ⟨a, rfl⟩ := one_of hl
      have r0 := hn rfl
      subst r0
      have z := each0 (Bool.and_eq_true_iff.mp h).1
      exact ⟨fun _ => by show a = 0; omega, by show a ≤ 3; omega, fun b hb => nomatch hb⟩
    · obtain ⟨a, b, rfl⟩ := two_of hl
      have r0 := hn rfl
      subst r0
      have z := each0 (Bool.and_eq_true_iff.mp h).1
      exact ⟨fun z => absurd z (by decide), by show a ≤ 3; omega, fun b hb => nomatch hb⟩
    · obtain ⟨a, b, c, rfl⟩ := three_of hl
      have r0 := hn rfl
      subst r0
      have z := each0 (Bool.and_eq_true_iff.mp h).1
      exact ⟨fun z => absurd z (by decide), by show a ≤ 3; omega, fun b hb => nomatch hb⟩
    · obtain ⟨a, rfl⟩ := one_of hl
      have z := each0 (Bool.and_eq_true_iff.mp h).1
      have z2 : (decide (0 ≤ (nums r).length) && decide ((nums r).length ≤ 300) && (nums r).all (PyInside.within 0 255) && true) = true := (Bool.and_eq_true_iff.mp h).2
      have z3 := (Bool.and_eq_true_iff.mp (Bool.and_eq_true_iff.mp z2).1).2
      exact ⟨fun z => absurd z (by decide), by show a ≤ 3; omega, byte_of z3⟩
    · obtain ⟨a, rfl⟩ := one_of hl
      have r0 := hn rfl
      subst r0
      have z := each0 (Bool.and_eq_true_iff.mp h).1
      exact ⟨fun z => absurd z (by decide), by show a ≤ 3; omega, fun b hb => nomatch hb⟩
    · obtain ⟨a, rfl⟩ := one_of hl
      have r0 := hn rfl
      subst r0
      have z := each0 (Bool.and_eq_true_iff.mp h).1
      exact ⟨fun z => absurd z (by decide), by show a ≤ 3; omega, fun b hb => nomatch hb⟩
  exact ⟨R.lt, hl, hn, key.1, key.2.1, key.2.2⟩
end Cy

namespace Cy
open PySem PySem.Spec PyProof.Rows L2
abbrev sThings : Stmt := top 49
abbrev sCDone : Stmt := top 50
abbrev sGDone : Stmt := top 51
abbrev sCallAt : Stmt := top 53
theorem flat_take {ths : List Km259.Told} {i : Nat} : ((ths.take i).flatMap Km259Neutral.shown).length ≤ (ths.flatMap Km259Neutral.shown).length := by
  have e : (ths.flatMap Km259Neutral.shown).length = ((ths.take i).flatMap Km259Neutral.shown).length + ((ths.drop i).flatMap Km259Neutral.shown).length := by
    rw [← List.length_append, ← List.flatMap_append, List.take_append_drop]
  omega
section
variable {P : Program} {w : World} {K : PySem.W.Frag} {mg : Str → Option Value} {base : Heap} {C CM CC CG : Addr}
/-! ### things_told -/
def toldL (ths : List Km259.Told) : List Int := (ths.length : Int) :: ths.flatMap Km259Neutral.shown
def spThings (K : PySem.W.Frag) : Sp := fun vs H Q _ => ∃ (C dx a lt : Addr) (fs : List (Str × V)) (ts : List Addr) (ths : List Km259.Told), vs = [.ref a] ∧ H a = some (.ins C dx fs) ∧ Cls K C ∧ NoAttr K C "things" ∧ fs.lookup ("things" : Str) = some (V.ref lt) ∧ fs.length < 1000 ∧
  H lt = some (.lst (ts.map V.ref)) ∧ Two (ThingAt H) ts ths ∧ (toldL ths).length ≤ 10000000 ∧
  ∀ (H' : Hp) (p q : Addr), H p = none → H q = none → H' p = some (.lst ((toldL ths).map V.int)) → H' q = some (.lst []) → H' a = some (.ins C dx (putF "things" (.ref q) fs)) → (∀ b o, b ≠ a → H b = some o → H' b = some o) → Q (.ref p) H'
theorem scThings : FnScope ["holder", "found", "thing"] ["holder"] (defScope sThings) := ⟨rfl, rfl, rfl, by decide +kernel, rfl, by decide +kernel, by decide +kernel⟩
theorem ok_things {f : Addr} {fd : FuncData} (F : Fun K "things_told" "things_told" sThings f fd) (T : Txt K mg) : FnOk P w K mg base CX0 1 f fd ["holder"] (spThings K) := by
  refine F.ok scThings (fun vs H Q E h => ?_) (fun cdv A outer s H vs Q E hr h => ?_)
  · obtain ⟨C, dx, a, lt, fs, ts, ths, rfl, _⟩ := h
    rfl
  · obtain ⟨C, dx, a, lt, fs, ts, ths, rfl, ha, cl, nt, lk, few, hlt, tt, hsz, k⟩ := h
    refine ⟨_, pss_cons (ps_set (i := 1) scThings.nd rfl (.inl rfl) (pe_lst (pa_cons (pe_callB call_len_seq rfl T.len PySem.boot_len (pa_cons (pe_fld (pv 0) rfl) pa_nil)) pa_nil)))
      (pss_cons (ps_for PassesOwn.never rfl (pi_list (pe_fld (pv 0) rfl)) (pg_name (i := 2) scThings.nd rfl (.inl rfl)) (pss_one (ps_set (i := 1) scThings.nd rfl (.inl rfl) (pe_op op_cat (pv 1) (pv 2)))))
      (pss_cons (ps_fld (pv 0) (pe_lst pa_nil) rfl)
      (pss_one (ps_ret (pv 1))))), ?_⟩
    refine ⟨_, rfl, a, C, dx, _, _, rfl, ha, cl, nt, lk, lt, _, rfl, .inl (SqL.of hlt), (by show 1 ≤ sizeLine; decide), fun p0 hp0 => ?_⟩
    have s0 := same_new (o := .lst [V.int ((ts.map V.ref).length : Int)]) (Same.refl H) hp0
    refine ⟨_, rfl, a, C, dx, _, _, rfl, s0 _ _ ha, cl, nt, lk, lt, rfl, ⟨_, SqL.of (s0 _ _ hlt)⟩, ?_⟩
    refine for_list (K := K) (a := lt) (xs := ts.map V.ref) (fun i σ H' => ∃ (v : Option V) (p : Addr), σ = [some (.ref a), some (.ref p), v] ∧ Same H H' ∧ H p = none ∧ H' p = some (.lst (((ths.length : Int) :: (ths.take i).flatMap Km259Neutral.shown).map V.int))) ?_ ?_ ?_ ?_
    · refine ⟨none, p0, rfl, s0, hp0, ?_⟩
      rw [upd_same, List.length_map, tt.len]
      rfl
    · rintro i σ H' _ ⟨v, p, rfl, s1, _⟩
      exact s1.seq (SqL.of hlt)
    · rintro i x σ H' hx ⟨v, p, rfl, s1, hp, hP⟩
      rw [List.getElem?_map] at hx
      obtain ⟨t, ht, rfl⟩ := Option.map_eq_some_iff.mp hx
      obtain ⟨y, hy, hT⟩ := tt.at ht
      have hT' : H' t = _ := s1 _ _ hT
      have e1 : (ths.take (i + 1)).flatMap Km259Neutral.shown = (ths.take i).flatMap Km259Neutral.shown ++ Km259Neutral.shown y := by
        rw [take_more hy, List.flatMap_append]
        simp
      have hle := flat_take (ths := ths) (i := i + 1)
      have hsz' : 1 + (ths.flatMap Km259Neutral.shown).length ≤ 10000000 := by
        have z : (toldL ths).length = (ths.flatMap Km259Neutral.shown).length + 1 := rfl
        omega
      refine ⟨_, rfl, _, rfl, p, t, _, _, rfl, rfl, hP, hT', ?_, fun q hq => ?_⟩
      · rw [List.length_map, List.length_map, List.length_cons, sizeLine_eq]
        rw [e1, List.length_append] at hle
        omega
      · refine ⟨some (.ref t), q, rfl, same_new s1 (s1.free hq), s1.free hq, ?_⟩
        rw [upd_same, e1, ← List.map_append]
        rfl
    · rintro σ H' ⟨v, p, rfl, s1, hp, hP⟩
      rw [List.length_map, tt.len, List.take_length] at hP
      refine ⟨Nat.zero_le _, fun q hq => ?_⟩
      have s2 := same_new (o := .lst []) s1 (s1.free hq)
      refine ⟨_, rfl, a, C, dx, _, rfl, s2 _ _ ha, cl, nt, few, ?_⟩
      refine ⟨_, rfl, ?_⟩
      have na : p ≠ a := (ne_of_none ha hp).symm
      have nq : p ≠ q := ne_of_none hP hq
      have nqa : q ≠ a := (ne_of_none ha (s1.free hq)).symm
      refine k _ p q hp (s1.free hq) ?_ ?_ upd_same fun b o nb e => ?_
      · rw [upd_ne na, upd_ne nq]
        exact hP
      · rw [upd_ne nqa, upd_same]
      · rw [upd_ne nb]
        exact s2 b o e
/-! ### call_at -/
def spCallAt (K : PySem.W.Frag) : Sp := fun vs H Q _ => ∃ (a : Addr) (ms : List Nat) (i p : Nat) (xs r : List Nat) (e : Nat), vs = [.ref a, .int (i : Int)] ∧ SqL K H a (iv ms) ∧ Reads ms i p xs r e ∧
  ∀ (H' : Hp) (t nl rl : Addr), Same H H' → H nl = none → H rl = none → H' t = some (.tup [.int (p : Int), .ref nl, .ref rl, .int (e : Int)]) → H' nl = some (.lst (iv xs)) → H' rl = some (.lst (iv r)) → Q (.ref t) H'
theorem scCallAt : FnScope ["calls", "at", "word", "here", "numbers", "end"] ["calls", "at"] (defScope sCallAt) := ⟨rfl, rfl, rfl, by decide +kernel, rfl, by decide +kernel, by decide +kernel⟩
theorem iv_item {l : List Nat} {i n : Nat} (h : l[i]? = some n) : (iv l)[i]? = some (.int (n : Int)) := by
  unfold iv
  rw [List.getElem?_map, h]
  rfl
theorem getD_item {l : List Nat} {i : Nat} (h : i < l.length) : l[i]? = some (l.getD i 0) := by
  rw [List.getD_eq_getElem?_getD, List.getElem?_eq_getElem h]
  rfl
theorem ok_callAt {f : Addr} {fd : FuncData} (F : Fun K "call_at" "call_at" sCallAt f fd) (T : Txt K mg) (TN : Tup K mg "NUMBERS" NUMB) (TR : Tup K mg "ROWS" ROWSL) : FnOk P w K mg base CX0 1 f fd ["calls", "at"] (spCallAt K) := by
  obtain ⟨tn, mN, hN⟩ := TN.ex
  obtain ⟨tr, mR', hR⟩ := TR.ex
  refine F.ok scCallAt (fun vs H Q E h => ?_) (fun cdv A outer s H vs Q E hr h => ?_)
  · obtain ⟨a, ms, i, p, xs, r, e, rfl, _⟩ := h
    rfl
  · obtain ⟨a, ms, i, p, xs, r, e, rfl, hS, R, k⟩ := h
    refine ⟨_, pss_cons (ps_set (i := 2) scCallAt.nd rfl (.inl rfl) (pe_ix ix_list (pv 0) (pv 1) (fun _ _ => rfl)))
      (pss_cons (ps_set (i := 3) scCallAt.nd rfl (.inl rfl) (pe_op op_add (pe_op op_add (pv 1) pe_int) (pe_ix ix_tup (pe_glob (v := .ref tn) rfl mN rfl) (pv 2) (fun _ _ => rfl))))
      (pss_cons (ps_set (i := 4) scCallAt.nd rfl (.inl rfl) (pe_slice sl_list (pv 0) (po_some (pe_op op_add (pv 1) pe_int)) (po_some (pv 3))))
      (pss_cons (ps_if (pt_cmpR op_eq (pe_ix ix_tup (pe_glob (v := .ref tr) rfl mR' rfl) (pv 2) (fun _ _ => rfl)) pe_int (nomark _)) (pss_one (ps_ret (pe_tup (pa_cons (pv 2) (pa_cons (pv 4) (pa_cons (pe_lst pa_nil) (pa_cons (pv 3) pa_nil))))))) pss_nil)
      (pss_cons (ps_set (i := 5) scCallAt.nd rfl (.inl rfl) (pe_op op_add (pe_op op_add (pv 3) pe_int) (pe_ix ix_list (pv 0) (pv 3) (fun _ _ => rfl))))
      (pss_one (ps_ret (pe_tup (pa_cons (pv 2) (pa_cons (pv 4) (pa_cons (pe_slice sl_list (pv 0) (po_some (pe_op op_add (pv 3) pe_int)) (po_some (pv 5))) (pa_cons (pv 5) pa_nil))))))))))), ?_⟩
    have hn : NUMB[p]? = some (NUMB.getD p 0) := getD_item R.lt
    have hw : ROWSL[p]? = some (ROWSL.getD p 0) := getD_item R.lt
    refine ⟨_, rfl, _, rfl, a, _, _, _, rfl, rfl, hS, atI_nat (iv_item R.hp), ?_⟩
    refine ⟨_, rfl, _, _, rfl, rfl, _, rfl, tn, _, _, _, rfl, rfl, hN H, atI_nat (iv_item hn), _, _, rfl, rfl, ?_⟩
    have fit := R.fit
    refine ⟨_, rfl, _, rfl, _, _, rfl, rfl, _, rfl, _, rfl, _, rfl, a, _, rfl, hS, fun nl hnl => ?_⟩
    have ecut : cutV (iv ms) (some ((i : Int) + 1)) (some ((i : Int) + 1 + (NUMB.getD p 0 : Int))) = iv xs := by
      have z := cut_nn (l := ms) (a := i + 1) (b := i + 1 + NUMB.getD p 0) (by omega) fit
      rw [Nat.add_sub_cancel_left] at z
      rw [R.hx]
      exact z
    have s1 : Same H (upd H nl (.lst (cutV (iv ms) (some ((i : Int) + 1)) (some ((i : Int) + 1 + (NUMB.getD p 0 : Int)))))) := same_new (Same.refl H) hnl
    refine ⟨_, rfl, tr, _, _, _, rfl, rfl, hR _, atI_nat (iv_item hw), rfl, _, rfl, ?_⟩
    refine iteI (fun z => ?_) (fun z => ?_)
    · have z : ROWSL.getD p 0 = 0 := by omega
      obtain ⟨_, rfl, rfl⟩ : ROWSL.getD p 0 = 0 ∧ r = [] ∧ e = i + 1 + NUMB.getD p 0 := by
        rcases R.hr with h | ⟨h, _⟩
        · exact h
        · omega
      refine ⟨_, rfl, _, rfl, Nat.zero_le _, fun rl hrl => ?_⟩
      have s2 := same_new (o := .lst []) s1 (s1.free hrl)
      refine ⟨_, rfl, (by show 4 ≤ sizeLine; decide), fun t ht => ?_⟩
      have nrn : nl ≠ rl := ne_of_none upd_same hrl
      have n1 : nl ≠ t := ne_of_none ((upd_ne nrn).trans upd_same) ht
      have n2 : rl ≠ t := ne_of_none upd_same ht
      refine k _ t nl rl (same_new s2 (s2.free ht)) hnl (s1.free hrl) upd_same ?_ ?_
      · rw [upd_ne n1, upd_ne nrn, upd_same, ecut]
      · rw [upd_ne n2, upd_same]
        rfl
    · have z : ¬ ROWSL.getD p 0 = 0 := fun h => z (by rw [h]; rfl)
      obtain ⟨_, q, hq, rfl, rfl, he⟩ : ROWSL.getD p 0 = 1 ∧ ∃ q, ms[i + 1 + NUMB.getD p 0]? = some q ∧ r = (ms.drop (i + 1 + NUMB.getD p 0 + 1)).take q ∧ e = i + 1 + NUMB.getD p 0 + 1 + q ∧ e ≤ ms.length := by
        rcases R.hr with ⟨h, _⟩ | h
        · exact absurd h z
        · exact h
      refine ⟨_, rfl, _, _, rfl, rfl, _, rfl, _, rfl, a, _, _, _, rfl, rfl, s1.seq hS, atI_nat (j := i + 1 + NUMB.getD p 0) (iv_item hq), _, _, rfl, rfl, ?_⟩
      refine ⟨_, rfl, _, rfl, _, rfl, _, rfl, _, _, rfl, rfl, _, rfl, _, rfl, _, rfl, a, _, rfl, s1.seq hS, fun rl hrl => ?_⟩
      have ecut2 : cutV (iv ms) (some ((i : Int) + 1 + (NUMB.getD p 0 : Int) + 1)) (some ((i : Int) + 1 + (NUMB.getD p 0 : Int) + 1 + (q : Int))) = iv ((ms.drop (i + 1 + NUMB.getD p 0 + 1)).take q) := by
        have z := cut_nn (l := ms) (a := i + 1 + NUMB.getD p 0 + 1) (b := i + 1 + NUMB.getD p 0 + 1 + q) (by omega) he
        rw [Nat.add_sub_cancel_left] at z
        exact z
      have s2 := same_new (o := .lst (cutV (iv ms) (some ((i : Int) + 1 + (NUMB.getD p 0 : Int) + 1)) (some ((i : Int) + 1 + (NUMB.getD p 0 : Int) + 1 + (q : Int))))) s1 (s1.free hrl)
      refine ⟨_, rfl, (by show 4 ≤ sizeLine; decide), fun t ht => ?_⟩
      have nrn : nl ≠ rl := ne_of_none upd_same hrl
      have n1 : nl ≠ t := ne_of_none ((upd_ne nrn).trans upd_same) ht
      have n2 : rl ≠ t := ne_of_none upd_same ht
      refine k _ t nl rl (same_new s2 (s2.free ht)) hnl (s1.free hrl) upd_same ?_ ?_
      · rw [upd_ne n1, upd_ne nrn, upd_same, ecut]
      · rw [upd_ne n2, upd_same]
        exact congrArg (fun z => some (HO.lst z)) ecut2
/-! ### centre_done, gate_done -/
def ansL : Km259.Ans → List Int
  | .num v => [v]
  | .words l => 0 :: Km259Neutral.nums l
theorem told_eq (y : List Km259.Told × Km259.Ans) : Km259Neutral.told y = ansL y.2 ++ toldL y.1 := by
  obtain ⟨t, a⟩ := y
  cases a <;> rfl
def spCDone (K : PySem.W.Frag) (C : Addr) : Sp := fun vs H Q _ => ∃ (A : CA) (c : Km259.Centre) (p : Nat) (r : Addr) (xs l : List Nat), vs = [.ref A.a, .int (p : Int), .ref r] ∧ CentreAt C H A c [] ∧ SqL K H r (iv l) ∧ (∀ b ∈ l, b < 256) ∧ 1 ≤ p ∧ p ≤ 6 ∧
  ∀ (H' : Hp) (A' : CA) (q : Addr) (c' : Km259.Centre) (t : List Km259.Told) (an : Km259.Ans), c.does (meant p xs l) = (c', t, an) → CStep C H A H' A' c' t → q ∉ A'.fp → H' q = some (.lst ((ansL an).map V.int)) → Q (.ref q) H'
theorem scCDone : FnScope ["centre", "word", "row"] ["centre", "word", "row"] (defScope sCDone) := ⟨rfl, rfl, rfl, by decide +kernel, rfl, by decide +kernel, by decide +kernel⟩
theorem ok_cDone {f : Addr} {fd : FuncData} (F : Fun K "centre_done" "centre_done" sCDone f fd) (T : Txt K mg) (G : CenT K mg C) (d1 : Mth P w K mg base C "lock" 6 ["self"] (spLock C)) (d2 : Mth P w K mg base C "free" 6 ["self"] (spFree C)) (d3 : Mth P w K mg base C "fire" 3 ["self"] (spFire C))
    (d4 : Mth P w K mg base C "heard" 6 ["self", "row"] (spCHeard K C)) (d5 : Mth P w K mg base C "tick" 6 ["self"] (spCTick C)) (d6 : Mth P w K mg base C "state" 3 ["self"] (spCState C)) : FnOk P w K mg base CX0 7 f fd ["centre", "word", "row"] (spCDone K C) := by
  obtain ⟨f1, fd1, m1, b1, G1⟩ := d1.ex
  obtain ⟨f2, fd2, m2, b2, G2⟩ := d2.ex
  obtain ⟨f3, fd3, m3, b3, G3⟩ := d3.ex
  obtain ⟨f4, fd4, m4, b4, G4⟩ := d4.ex
  obtain ⟨f5, fd5, m5, b5, G5⟩ := d5.ex
  obtain ⟨f6, fd6, m6, b6, G6⟩ := d6.ex
  refine F.ok scCDone (fun vs H Q E h => ?_) (fun cdv A outer s H vs Q E hr h => ?_)
  · obtain ⟨A, c, p, r, xs, l, rfl, _⟩ := h
    rfl
  · obtain ⟨B, c, p, r, xs, l, rfl, gat, hS, hb, hp1, hp6, k⟩ := h
    obtain ⟨dx, hd⟩ := gat.obj
    have hr3 : Room 3 _ := hr.mono (by decide)
    refine ⟨_, pss_cons (ps_if (pt_cmpR op_eq (pv 1) pe_int (nomark _)) (pss_one (ps_ret (pe_lst (pa_cons (pe_meth0 (pv 0) G.cl m1 G1 hr b1 .nil pass0) pa_nil)))) pss_nil)
      (pss_cons (ps_if (pt_cmpR op_eq (pv 1) pe_int (nomark _)) (pss_one (ps_ret (pe_lst (pa_cons (pe_meth0 (pv 0) G.cl m2 G2 hr b2 .nil pass0) pa_nil)))) pss_nil)
      (pss_cons (ps_if (pt_cmpR op_eq (pv 1) pe_int (nomark _)) (pss_one (ps_ret (pe_lst (pa_cons (pe_meth0 (pv 0) G.cl m3 G3 hr3 b3 .nil pass0) pa_nil)))) pss_nil)
      (pss_cons (ps_if (pt_cmpR op_eq (pv 1) pe_int (nomark _)) (pss_one (ps_ret (pe_lst (pa_cons (pe_meth (pv 0) G.cl m4 G4 hr b4 .nil pass0 (pa_cons (pv 2) pa_nil)) pa_nil)))) pss_nil)
      (pss_cons (ps_if (pt_cmpR op_eq (pv 1) pe_int (nomark _)) (pss_one (ps_ret (pe_lst (pa_cons (pe_meth0 (pv 0) G.cl m5 G5 hr b5 .nil pass0) pa_nil)))) pss_nil)
      (pss_one (ps_ret (pe_op op_cat (pe_lst (pa_cons pe_int pa_nil)) (pe_meth0 (pv 0) G.cl m6 G6 hr3 b6 .nil pass0)))))))), ?_⟩
    -- a call that answers a number
    have num : ∀ (x : Km259.Call), meant p xs l = x → CDoes C H B c x (fun v H1 => [v].length ≤ sizeLine ∧ ∀ q, H1 q = none → Q (.ref q) (upd H1 q (.lst [v]))) := by
      intro x ex H1 A1 c1 t1 v ed S
      refine ⟨(by show 1 ≤ sizeLine; decide), fun q hq => ?_⟩
      refine k _ A1 q c1 t1 (.num v) (by rw [ex]; exact ed) (S.trans (S.ok.stepSame (same_new (Same.refl H1) hq))) (S.ok.fresh hq) ?_
      rw [upd_same]
      rfl
    refine ⟨_, rfl, rfl, _, rfl, ?_⟩
    refine iteI (fun z => ?_) (fun z1 => ?_)
    · have e : p = 1 := by omega
      exact ⟨_, rfl, B.a, dx, _, rfl, hd, cFs_no_lock _ _ _ _ _ _ _ _, B, c, rfl, gat, num .lock (by rw [e]; rfl)⟩
    refine ⟨_, rfl, rfl, _, rfl, ?_⟩
    refine iteI (fun z => ?_) (fun z2 => ?_)
    · have e : p = 2 := by omega
      exact ⟨_, rfl, B.a, dx, _, rfl, hd, cFs_no_free _ _ _ _ _ _ _ _, B, c, rfl, gat, num .free (by rw [e]; rfl)⟩
    refine ⟨_, rfl, rfl, _, rfl, ?_⟩
    refine iteI (fun z => ?_) (fun z3 => ?_)
    · have e : p = 3 := by omega
      exact ⟨_, rfl, B.a, dx, _, rfl, hd, cFs_no_fire _ _ _ _ _ _ _ _, B, c, rfl, gat, num .fire (by rw [e]; rfl)⟩
    refine ⟨_, rfl, rfl, _, rfl, ?_⟩
    refine iteI (fun z => ?_) (fun z4 => ?_)
    · have e : p = 4 := by omega
      exact ⟨_, rfl, B.a, dx, _, rfl, hd, cFs_no_heard _ _ _ _ _ _ _ _, _, rfl, B, c, r, l, rfl, gat, hS, hb, num (.cHeard l l.length) (by rw [e]; rfl)⟩
    refine ⟨_, rfl, rfl, _, rfl, ?_⟩
    refine iteI (fun z => ?_) (fun z5 => ?_)
    · have e : p = 5 := by omega
      exact ⟨_, rfl, B.a, dx, _, rfl, hd, cFs_no_tick _ _ _ _ _ _ _ _, B, c, rfl, gat, num .cTick (by rw [e]; rfl)⟩
    have e : p = 6 := by omega
    refine ⟨(by show 1 ≤ sizeLine; decide), fun q0 hq0 => ?_⟩
    have s0 := same_new (o := .lst [V.int 0]) (Same.refl H) hq0
    refine ⟨_, rfl, B.a, dx, _, rfl, s0 _ _ hd, cFs_no_state _ _ _ _ _ _ _ _, B, c, rfl, gat.same s0, fun H1 p1 ws ed s1 n1 e1 => ?_⟩
    have lws : ws.length = 4 := by
      have z : Km259.Ans.words ws = Km259.Ans.words _ := (Prod.mk.inj (Prod.mk.inj ed.symm).2).2
      rw [Km259.Ans.words.inj z]
      rfl
    refine ⟨q0, p1, _, _, rfl, rfl, s1 _ _ upd_same, e1, (by rw [iv_len, lws]; exact sz (m := 5) (by decide) (by decide)), fun q hq => ?_⟩
    have s2 := s0.trans s1
    refine k _ B q c [] (.words ws) (by rw [e]; exact ed) (gat.stepSame (same_new s2 (s2.free hq))) (gat.fresh (s2.free hq)) ?_
    rw [upd_same]
    show some (HO.lst ([V.int 0] ++ iv ws)) = some (HO.lst (V.int 0 :: (Km259Neutral.nums ws).map V.int))
    rw [nums_iv]
    rfl
def spGDone (K : PySem.W.Frag) (C : Addr) : Sp := fun vs H Q _ => ∃ (A : GA) (g : Km259.Gate) (p : Nat) (n r : Addr) (xs l : List Nat), vs = [.ref A.a, .int (p : Int), .ref n, .ref r] ∧ GateAt C H A g [] ∧ SqL K H n (iv xs) ∧ SqL K H r (iv l) ∧ (∀ b ∈ l, b < 256) ∧ (p = 8 → xs.length = 3) ∧ 8 ≤ p ∧ p ≤ 11 ∧
  ∀ (H' : Hp) (A' : GA) (q : Addr) (g' : Km259.Gate) (t : List Km259.Told) (an : Km259.Ans), g.does (meant p xs l) = (g', t, an) → GStep C H A H' A' g' t → q ∉ A'.fp → H' q = some (.lst ((ansL an).map V.int)) → Q (.ref q) H'
theorem scGDone : FnScope ["gate", "word", "numbers", "row"] ["gate", "word", "numbers", "row"] (defScope sGDone) := ⟨rfl, rfl, rfl, by decide +kernel, rfl, by decide +kernel, by decide +kernel⟩
theorem ok_gDone {f : Addr} {fd : FuncData} (F : Fun K "gate_done" "gate_done" sGDone f fd) (T : Txt K mg) (G : GateT K mg C) (d1 : Mth P w K mg base C "go_by" 5 ["self", "tag", "going"] (spGoBy C)) (d2 : Mth P w K mg base C "heard" 6 ["self", "row"] (spGHeard K C)) (d3 : Mth P w K mg base C "tick" 5 ["self"] (spGTick C))
    (d4 : Mth P w K mg base C "state" 1 ["self"] (spGState C)) : FnOk P w K mg base CX0 7 f fd ["gate", "word", "numbers", "row"] (spGDone K C) := by
  obtain ⟨f1, fd1, m1, b1, G1⟩ := d1.ex
  obtain ⟨f2, fd2, m2, b2, G2⟩ := d2.ex
  obtain ⟨f3, fd3, m3, b3, G3⟩ := d3.ex
  obtain ⟨f4, fd4, m4, b4, G4⟩ := d4.ex
  refine F.ok scGDone (fun vs H Q E h => ?_) (fun cdv A outer s H vs Q E hr h => ?_)
  · obtain ⟨A, g, p, n, r, xs, l, rfl, _⟩ := h
    rfl
  · obtain ⟨B, g, p, n, r, xs, l, rfl, gat, hN, hS, hb, hx, hp1, hp6, k⟩ := h
    obtain ⟨dx, hd⟩ := gat.obj
    have hr5 : Room 5 _ := hr.mono (by decide)
    have hr1 : Room 1 _ := hr.mono (by decide)
    refine ⟨_, pss_cons (ps_if (pt_cmpR op_eq (pv 1) pe_int (nomark _)) (pss_one (ps_ret (pe_lst (pa_cons (pe_meth (pv 0) G.cl m1 G1 hr5 b1 .nil pass0 (pa_cons (pe_ix ix_list (pv 2) pe_int (fun _ _ => rfl)) (pa_cons (pe_ix ix_list (pv 2) pe_int (fun _ _ => rfl)) pa_nil))) pa_nil)))) pss_nil)
      (pss_cons (ps_if (pt_cmpR op_eq (pv 1) pe_int (nomark _)) (pss_one (ps_ret (pe_lst (pa_cons (pe_meth (pv 0) G.cl m2 G2 hr b2 .nil pass0 (pa_cons (pv 3) pa_nil)) pa_nil)))) pss_nil)
      (pss_cons (ps_if (pt_cmpR op_eq (pv 1) pe_int (nomark _)) (pss_one (ps_ret (pe_lst (pa_cons (pe_meth0 (pv 0) G.cl m3 G3 hr5 b3 .nil pass0) pa_nil)))) pss_nil)
      (pss_one (ps_ret (pe_op op_cat (pe_lst (pa_cons pe_int pa_nil)) (pe_meth0 (pv 0) G.cl m4 G4 hr1 b4 .nil pass0)))))), ?_⟩
    have num : ∀ (x : Km259.Call), meant p xs l = x → GDoes C H B g x (fun v H1 => [v].length ≤ sizeLine ∧ ∀ q, H1 q = none → Q (.ref q) (upd H1 q (.lst [v]))) := by
      intro x ex H1 A1 c1 t1 v ed S
      refine ⟨(by show 1 ≤ sizeLine; decide), fun q hq => ?_⟩
      refine k _ A1 q c1 t1 (.num v) (by rw [ex]; exact ed) (S.trans (S.ok.stepSame (same_new (Same.refl H1) hq))) (S.ok.fresh hq) ?_
      rw [upd_same]
      rfl
    refine ⟨_, rfl, rfl, _, rfl, ?_⟩
    refine iteI (fun z => ?_) (fun z1 => ?_)
    · have e : p = 8 := by omega
      have hx3 := hx e
      have a1 : xs[1]? = some (xs.getD 1 0) := getD_item (by omega)
      have a2 : xs[2]? = some (xs.getD 2 0) := getD_item (by omega)
      exact ⟨_, rfl, B.a, dx, _, rfl, hd, gFs_no_go_by _ _ _ _ _ _ _, _, rfl, n, _, _, _, rfl, rfl, hN, atI_nat (j := 1) (iv_item a1), _, rfl, n, _, _, _, rfl, rfl, hN, atI_nat (j := 2) (iv_item a2), B, g, xs.getD 1 0, xs.getD 2 0, rfl, gat, num (.pass (xs.getD 1 0) (xs.getD 2 0)) (by rw [e]; rfl)⟩
    refine ⟨_, rfl, rfl, _, rfl, ?_⟩
    refine iteI (fun z => ?_) (fun z2 => ?_)
    · have e : p = 9 := by omega
      exact ⟨_, rfl, B.a, dx, _, rfl, hd, gFs_no_heard _ _ _ _ _ _ _, _, rfl, B, g, r, l, rfl, gat, hS, hb, num (.gHeard l l.length) (by rw [e]; rfl)⟩
    refine ⟨_, rfl, rfl, _, rfl, ?_⟩
    refine iteI (fun z => ?_) (fun z3 => ?_)
    · have e : p = 10 := by omega
      exact ⟨_, rfl, B.a, dx, _, rfl, hd, gFs_no_tick _ _ _ _ _ _ _, B, g, rfl, gat, num .gTick (by rw [e]; rfl)⟩
    have e : p = 11 := by omega
    refine ⟨(by show 1 ≤ sizeLine; decide), fun q0 hq0 => ?_⟩
    have s0 := same_new (o := .lst [V.int 0]) (Same.refl H) hq0
    refine ⟨_, rfl, B.a, dx, _, rfl, s0 _ _ hd, gFs_no_state _ _ _ _ _ _ _, B, g, rfl, gat.same s0, fun H1 p1 s1 n1 e1 => ?_⟩
    refine ⟨q0, p1, _, _, rfl, rfl, s1 _ _ upd_same, e1, (by rw [iv_len]; exact sz (m := 5) (by simp) (by decide)), fun q hq => ?_⟩
    have s2 := s0.trans s1
    refine k _ B q g [] (.words [g.last, g.kept.length, g.lock, Km259.b2n g.locked]) (by rw [e]; rfl) (gat.stepSame (same_new s2 (s2.free hq))) (gat.fresh (s2.free hq)) ?_
    rw [upd_same]
    rfl
end
end Cy

namespace Cy
open PySem PySem.Spec PyProof.Rows L2
open Km259Neutral (S)
def yFs (v1 v2 : V) : List (Str × V) := [("centre", v1), ("gates", v2)]
theorem yFs_centre (v1 v2 : V) : (yFs v1 v2).lookup ("centre" : Str) = some v1 := lk_here
theorem yFs_gates (v1 v2 : V) : (yFs v1 v2).lookup ("gates" : Str) = some v2 := (lk_past (by decide +kernel)).trans lk_here
theorem yFs_no_start_centre (v1 v2 : V) : (yFs v1 v2).lookup ("start_centre" : Str) = none := (lk_past (by decide +kernel)).trans ((lk_past (by decide +kernel)).trans rfl)
theorem yFs_no_start_gate (v1 v2 : V) : (yFs v1 v2).lookup ("start_gate" : Str) = none := (lk_past (by decide +kernel)).trans ((lk_past (by decide +kernel)).trans rfl)
theorem yFs_put_centre (v1 v2 x : V) : putF "centre" x (yFs v1 v2) = yFs x v2 := put_here
theorem yFs_put_gates (v1 v2 x : V) : putF "gates" x (yFs v1 v2) = yFs v1 x := (put_past (by decide +kernel)).trans (congrArg _ put_here)
theorem yFs_new (v1 v2 : V) : putF "gates" v2 (putF "centre" v1 []) = yFs v1 v2 := by
  have e1 : putF "gates" v2 ([("centre", v1)] : List (Str × V)) = ([("centre", v1), ("gates", v2)] : List (Str × V)) := put_new (by show ("gates" : Str) ∉ (["centre"] : List Str); decide +kernel)
  show putF "gates" v2 (([("centre", v1)] : List (Str × V))) = _
  rw [e1]
  rfl
/-! ### the yard in the heap -/
structure YA where
  y : Addr
  lg : Addr
  ca : Option CA
  ga : List (Option GA)
def cval : Option CA → V
  | none => .non
  | some A => .ref A.a
def gval : Option GA → V
  | none => .non
  | some A => .ref A.a
def cfp : Option CA → List Addr
  | none => []
  | some A => A.fp
def gfp : Option GA → List Addr
  | none => []
  | some A => A.fp
def YA.fp (Y : YA) : List Addr := Y.y :: Y.lg :: (cfp Y.ca ++ Y.ga.flatMap gfp)
def CRel (C : Addr) (H : Hp) : Option CA → Option Km259.Centre → Prop
  | none, none => True
  | some A, some c => CentreAt C H A c []
  | _, _ => False
def GRel (C : Addr) (H : Hp) : Option GA → Option Km259.Gate → Prop
  | none, none => True
  | some A, some g => GateAt C H A g []
  | _, _ => False
theorem CRel.kept {C : Addr} {H H' : Hp} : ∀ {o : Option CA} {oc : Option Km259.Centre}, CRel C H o oc → (∀ b ∈ cfp o, ∀ u, H b = some u → H' b = some u) → CRel C H' o oc
  | none, none, _, _ => trivial
  | some A, some c, h, k => CentreAt.kept h k
  | none, some _, h, _ => h.elim
  | some _, none, h, _ => h.elim
theorem GRel.kept {C : Addr} {H H' : Hp} : ∀ {o : Option GA} {og : Option Km259.Gate}, GRel C H o og → (∀ b ∈ gfp o, ∀ u, H b = some u → H' b = some u) → GRel C H' o og
  | none, none, _, _ => trivial
  | some A, some c, h, k => GateAt.kept h k
  | none, some _, h, _ => h.elim
  | some _, none, h, _ => h.elim
theorem CRel.tracked {C : Addr} {H : Hp} : ∀ {o : Option CA} {oc : Option Km259.Centre}, CRel C H o oc → ∀ b ∈ cfp o, ∃ u, H b = some u
  | none, none, _ => fun b hb => nomatch hb
  | some A, some c, h => CentreAt.tracked h
  | none, some _, h => h.elim
  | some _, none, h => h.elim
theorem GRel.tracked {C : Addr} {H : Hp} : ∀ {o : Option GA} {og : Option Km259.Gate}, GRel C H o og → ∀ b ∈ gfp o, ∃ u, H b = some u
  | none, none, _ => fun b hb => nomatch hb
  | some A, some c, h => GateAt.tracked h
  | none, some _, h => h.elim
  | some _, none, h => h.elim
structure YardAt (CY CC CG : Addr) (H : Hp) (Y : YA) (s : S) : Prop where
  obj : ∃ dx, H Y.y = some (.ins CY dx (yFs (cval Y.ca) (.ref Y.lg)))
  gl : H Y.lg = some (.lst (Y.ga.map gval))
  four : Y.ga.length = 4
  one : ∃ oc, s.1 = [oc] ∧ CRel CC H Y.ca oc
  gs : Two (GRel CG H) Y.ga s.2
  d1 : ∀ b ∈ cfp Y.ca, b ≠ Y.y ∧ b ≠ Y.lg
  d2 : ∀ o ∈ Y.ga, ∀ b ∈ gfp o, b ≠ Y.y ∧ b ≠ Y.lg ∧ b ∉ cfp Y.ca
  d3 : ∀ (i j : Nat) (o o' : Option GA), i ≠ j → Y.ga[i]? = some o → Y.ga[j]? = some o' → ∀ b ∈ gfp o, b ∉ gfp o'
structure YStep (CY CC CG : Addr) (H : Hp) (Y : YA) (H' : Hp) (Y' : YA) (s' : S) : Prop where
  same : Y'.y = Y.y
  ok : YardAt CY CC CG H' Y' s'
  gr : Gr Y.fp H Y'.fp H'
theorem yp_y (Y : YA) : Y.y ∈ Y.fp := List.mem_cons_self ..
theorem yp_lg (Y : YA) : Y.lg ∈ Y.fp := List.mem_cons_of_mem _ (List.mem_cons_self ..)
theorem yp_c {Y : YA} {b : Addr} (h : b ∈ cfp Y.ca) : b ∈ Y.fp := List.mem_cons_of_mem _ (List.mem_cons_of_mem _ (List.mem_append_left _ h))
theorem yp_g {Y : YA} {b : Addr} {o : Option GA} (ho : o ∈ Y.ga) (h : b ∈ gfp o) : b ∈ Y.fp := List.mem_cons_of_mem _ (List.mem_cons_of_mem _ (List.mem_append_right _ (List.mem_flatMap.mpr ⟨o, ho, h⟩)))
theorem yp_cases {Y : YA} {b : Addr} (h : b ∈ Y.fp) : b = Y.y ∨ b = Y.lg ∨ b ∈ cfp Y.ca ∨ ∃ o ∈ Y.ga, b ∈ gfp o := by
  rcases List.mem_cons.mp h with h | h
  · exact .inl h
  rcases List.mem_cons.mp h with h | h
  · exact .inr (.inl h)
  rcases List.mem_append.mp h with h | h
  · exact .inr (.inr (.inl h))
  · exact .inr (.inr (.inr (List.mem_flatMap.mp h)))
theorem mem_of {α : Type} {l : List α} {i : Nat} {x : α} (h : l[i]? = some x) : x ∈ l := List.mem_of_getElem? h
theorem Two.set {α β : Type} {R R' : α → β → Prop} {x : α} {y : β} : ∀ {l : List α} {m : List β} {i : Nat}, Two R l m → (∀ (j : Nat) a b, j ≠ i → l[j]? = some a → R a b → R' a b) → R' x y → Two R' (l.set i x) (m.set i y)
  | [], [], _, _, _, _ => trivial
  | a :: l, b :: m, 0, h, k, r => ⟨r, h.2.mono fun u hu v z => by
      obtain ⟨j, hj, e⟩ := List.getElem_of_mem hu
      exact k (j + 1) u v (by omega) (by show l[j]? = some u; rw [List.getElem?_eq_getElem hj, e]) z⟩
  | a :: l, b :: m, i + 1, h, k, r => ⟨k 0 a b (by omega) rfl h.1, Two.set (l := l) (m := m) (i := i) h.2 (fun j a b ne e z => k (j + 1) a b (by omega) e z) r⟩
  | [], _ :: _, _, h, _, _ => h.elim
  | _ :: _, [], _, h, _, _ => h.elim
theorem Two.both {α β : Type} {R : α → β → Prop} : ∀ {l : List α} {m : List β} {i : Nat} {x : α} {y : β}, Two R l m → l[i]? = some x → m[i]? = some y → R x y
  | a :: _, b :: _, 0, x, y, h, e, e2 => by
    have z : a = x := Option.some.inj e
    have z2 : b = y := Option.some.inj e2
    rw [← z, ← z2]
    exact h.1
  | _ :: l, _ :: m, i + 1, x, y, h, e, e2 => Two.both (l := l) (m := m) (i := i) h.2 e e2
  | [], _, _, _, _, _, e, _ => by simp at e
  | _ :: _, [], _, _, _, h, _, _ => h.elim
section
variable {CY CC CG : Addr} {H H' : Hp} {Y : YA} {s : S}
theorem YardAt.gtracked (D : YardAt CY CC CG H Y s) {o : Option GA} (ho : o ∈ Y.ga) : ∀ b ∈ gfp o, ∃ u, H b = some u := by
  obtain ⟨y, r⟩ := D.gs.mem ho
  exact r.tracked
theorem YardAt.ctracked (D : YardAt CY CC CG H Y s) : ∀ b ∈ cfp Y.ca, ∃ u, H b = some u := by
  obtain ⟨oc, _, r⟩ := D.one
  exact r.tracked
theorem YardAt.tracked (D : YardAt CY CC CG H Y s) : ∀ b ∈ Y.fp, ∃ u, H b = some u := by
  intro b hb
  rcases yp_cases hb with rfl | rfl | h | ⟨o, ho, h⟩
  · obtain ⟨dx, e⟩ := D.obj
    exact ⟨_, e⟩
  · exact ⟨_, D.gl⟩
  · exact D.ctracked b h
  · exact D.gtracked ho b h
theorem not_none {b : Addr} (h : ∃ u, H b = some u) (h2 : H b = none) : False := by
  obtain ⟨u, e⟩ := h
  rw [h2] at e
  cases e
theorem YardAt.kept (D : YardAt CY CC CG H Y s) (k : ∀ b ∈ Y.fp, ∀ u, H b = some u → H' b = some u) : YardAt CY CC CG H' Y s where
  obj := by
    obtain ⟨dx, e⟩ := D.obj
    exact ⟨dx, k _ (yp_y Y) _ e⟩
  gl := k _ (yp_lg Y) _ D.gl
  four := D.four
  one := by
    obtain ⟨oc, e, r⟩ := D.one
    exact ⟨oc, e, r.kept fun b hb => k b (yp_c hb)⟩
  gs := D.gs.mono fun o ho og r => r.kept fun b hb => k b (yp_g ho hb)
  d1 := D.d1
  d2 := D.d2
  d3 := D.d3
theorem YardAt.stepSame (D : YardAt CY CC CG H Y s) (k : Same H H') : YStep CY CC CG H Y H' Y s := ⟨rfl, D.kept fun b _ u e => k b u e, Gr.same k⟩
theorem YStep.trans {H1 H2 : Hp} {Y1 Y2 : YA} {s1 s2 : S} (a : YStep CY CC CG H Y H1 Y1 s1) (b : YStep CY CC CG H1 Y1 H2 Y2 s2) : YStep CY CC CG H Y H2 Y2 s2 := ⟨b.same.trans a.same, b.ok, a.gr.trans b.gr⟩
/-- the centre has done something -/
theorem YardAt.centre (D : YardAt CY CC CG H Y s) {A A' : CA} {c' : Km259.Centre} (ea : Y.ca = some A) (T : CStep CC H A H' A' c' []) : YStep CY CC CG H Y H' { Y with ca := some A' } ([some c'], s.2) := by
  obtain ⟨dx, hd⟩ := D.obj
  have d1 : ∀ b ∈ A.fp, b ≠ Y.y ∧ b ≠ Y.lg := fun b hb => D.d1 b (by rw [ea]; exact hb)
  have d2 : ∀ o ∈ Y.ga, ∀ b ∈ gfp o, b ∉ A.fp := fun o ho b hb z => (D.d2 o ho b hb).2.2 (by rw [ea]; exact z)
  have ny : Y.y ∉ A.fp := fun z => (d1 _ z).1 rfl
  have nl : Y.lg ∉ A.fp := fun z => (d1 _ z).2 rfl
  refine ⟨rfl, ⟨⟨dx, ?_⟩, T.gr.keep _ _ nl D.gl, D.four, ⟨_, rfl, T.ok⟩, ?_, ?_, ?_, D.d3⟩, ⟨?_, ?_⟩⟩
  · have z := T.gr.keep _ _ ny hd
    rw [ea] at z
    refine z.trans ?_
    show some (HO.ins CY dx (yFs (.ref A.a) (.ref Y.lg))) = some (HO.ins CY dx (yFs (.ref A'.a) (.ref Y.lg)))
    rw [T.same]
  · exact D.gs.mono fun o ho og r => r.kept fun b hb u e => T.gr.keep b u (d2 o ho b hb) e
  · intro b hb
    rcases T.gr.new b hb with h | h
    · exact d1 b h
    · exact ⟨fun z => not_none ⟨_, hd⟩ (z ▸ h), fun z => not_none ⟨_, D.gl⟩ (z ▸ h)⟩
  · intro o ho b hb
    refine ⟨(D.d2 o ho b hb).1, (D.d2 o ho b hb).2.1, fun z => ?_⟩
    rcases T.gr.new b z with h | h
    · exact d2 o ho b hb h
    · exact not_none (D.gtracked ho b hb) h
  · intro b hb
    rcases yp_cases hb with h | h | h | ⟨o, ho, h⟩
    · exact .inl (h ▸ yp_y Y)
    · exact .inl (h ▸ yp_lg Y)
    · rcases T.gr.new b h with z | z
      · exact .inl (yp_c (by rw [ea]; exact z))
      · exact .inr z
    · exact .inl (yp_g ho h)
  · intro b u hb e
    exact T.gr.keep b u (fun z => hb (yp_c (by rw [ea]; exact z))) e
theorem set_mem {α : Type} {l : List α} {i : Nat} {x o : α} (h : o ∈ l.set i x) : o = x ∨ ∃ j, j ≠ i ∧ l[j]? = some o := by
  obtain ⟨j, hj, e⟩ := List.getElem_of_mem h
  rw [List.length_set] at hj
  by_cases eq : j = i
  · left
    subst eq
    rw [← e, List.getElem_set_self]
  · right
    refine ⟨j, eq, ?_⟩
    rw [List.getElem_set_ne (fun z => eq z.symm)] at e
    rw [List.getElem?_eq_getElem hj, e]
theorem set_at {α : Type} {l : List α} {i j : Nat} {x o : α} (h : (l.set i x)[j]? = some o) : (j = i ∧ o = x) ∨ (j ≠ i ∧ l[j]? = some o) := by
  by_cases eq : j = i
  · left
    subst eq
    refine ⟨rfl, ?_⟩
    have hj : j < l.length := by
      have z := (List.getElem?_eq_some_iff.mp h).1
      rw [List.length_set] at z
      exact z
    rw [List.getElem?_set_self hj] at h
    exact (Option.some.inj h).symm
  · right
    rw [List.getElem?_set_ne (fun z => eq z.symm)] at h
    exact ⟨eq, h⟩
/-- a gate's place has another gate, or the same one changed: what all share -/
theorem YardAt.gateAt (D : YardAt CY CC CG H Y s) {i : Nat} {o : Option GA} {A' : GA} {g' : Km259.Gate} (ho : Y.ga[i]? = some o) (nw : ∀ b ∈ A'.fp, b ∈ gfp o ∨ H b = none) (kp : ∀ b u, b ∉ gfp o → b ≠ Y.lg → H b = some u → H' b = some u)
    (hl : H' Y.lg = some (.lst ((Y.ga.set i (some A')).map gval))) (ok : GateAt CG H' A' g' []) : YStep CY CC CG H Y H' { Y with ga := Y.ga.set i (some A') } (s.1, s.2.set i (some g')) := by
  have hm := mem_of ho
  have d2 := D.d2 o hm
  obtain ⟨dx, hd⟩ := D.obj
  have nyl : Y.y ≠ Y.lg := ne_of hd D.gl (by intro z; cases z)
  have other : ∀ (j : Nat) (o' : Option GA), j ≠ i → Y.ga[j]? = some o' → ∀ b ∈ gfp o', b ∉ gfp o := fun j o' ne e b hb => D.d3 j i o' o ne e ho b hb
  have isnew : ∀ b ∈ A'.fp, b ≠ Y.y ∧ b ≠ Y.lg ∧ b ∉ cfp Y.ca := by
    intro b hb
    rcases nw b hb with h | h
    · exact d2 b h
    · exact ⟨fun z => not_none ⟨_, hd⟩ (z ▸ h), fun z => not_none ⟨_, D.gl⟩ (z ▸ h), fun z => not_none (D.ctracked b z) h⟩
  have apart : ∀ (j : Nat) (o' : Option GA), j ≠ i → Y.ga[j]? = some o' → ∀ b ∈ gfp o', b ∉ A'.fp := by
    intro j o' ne e b hb z
    rcases nw b z with h | h
    · exact other j o' ne e b hb h
    · exact not_none (D.gtracked (mem_of e) b hb) h
  refine ⟨rfl, ⟨⟨dx, kp _ _ (fun z => (d2 _ z).1 rfl) nyl hd⟩, hl, by rw [List.length_set]; exact D.four, ?_, ?_, D.d1, ?_, ?_⟩, ⟨?_, ?_⟩⟩
  · obtain ⟨oc, e, r⟩ := D.one
    exact ⟨oc, e, r.kept fun b hb u eb => kp b u (fun z => (d2 b z).2.2 hb) (D.d1 b hb).2 eb⟩
  · refine D.gs.set (fun j a b ne e r => r.kept fun x hx u ex => kp x u (other j a ne e x hx) (D.d2 a (mem_of e) x hx).2.1 ex) ok
  · intro o' ho' b hb
    rcases set_mem ho' with rfl | ⟨j, ne, e⟩
    · exact isnew b hb
    · exact D.d2 o' (mem_of e) b hb
  · intro j1 j2 o1 o2 ne e1 e2 b hb
    rcases set_at e1 with ⟨z1, rfl⟩ | ⟨z1, e1⟩
    · rcases set_at e2 with ⟨z2, rfl⟩ | ⟨z2, e2⟩
      · exact absurd (z1.trans z2.symm) ne
      · exact fun h => apart j2 o2 z2 e2 b h hb
    · rcases set_at e2 with ⟨z2, rfl⟩ | ⟨z2, e2⟩
      · exact apart j1 o1 z1 e1 b hb
      · exact D.d3 j1 j2 o1 o2 ne e1 e2 b hb
  · intro b hb
    rcases yp_cases hb with h | h | h | ⟨o', ho', h⟩
    · exact .inl (h ▸ yp_y Y)
    · exact .inl (h ▸ yp_lg Y)
    · exact .inl (yp_c h)
    · rcases set_mem ho' with rfl | ⟨j, ne, e⟩
      · rcases nw b h with z | z
        · exact .inl (yp_g hm z)
        · exact .inr z
      · exact .inl (yp_g (mem_of e) h)
  · intro b u hb e
    exact kp b u (fun z => hb (yp_g hm z)) (fun z => hb (z ▸ yp_lg Y)) e
theorem YardAt.gate (D : YardAt CY CC CG H Y s) {i : Nat} {A A' : GA} {g' : Km259.Gate} (ho : Y.ga[i]? = some (some A)) (T : GStep CG H A H' A' g' []) : YStep CY CC CG H Y H' { Y with ga := Y.ga.set i (some A') } (s.1, s.2.set i (some g')) := by
  have d2 := D.d2 _ (mem_of ho)
  refine D.gateAt ho T.gr.new (fun b u hb _ e => T.gr.keep b u hb e) ?_ T.ok
  have nl : Y.lg ∉ A.fp := fun z => (d2 _ z).2.1 rfl
  rw [T.gr.keep _ _ nl D.gl, List.map_set]
  have e : gval (some A') = gval (some A) := congrArg V.ref T.same
  rw [e, set_same (by rw [List.getElem?_map, ho]; rfl)]
/-- a new centre -/
theorem YardAt.newCentre (D : YardAt CY CC CG H Y s) {A' : CA} {c : Km259.Centre} {dx : Addr} (hd : H Y.y = some (.ins CY dx (yFs (cval Y.ca) (.ref Y.lg)))) (sm : Same H H') (nw : ∀ b ∈ A'.fp, H b = none) (ok : CentreAt CC H' A' c []) :
    YStep CY CC CG H Y (upd H' Y.y (.ins CY dx (yFs (.ref A'.a) (.ref Y.lg)))) { Y with ca := some A' } ([some c], s.2) := by
  have nyl : Y.lg ≠ Y.y := ne_of D.gl hd (by intro z; cases z)
  have ny : ∀ b ∈ A'.fp, b ≠ Y.y := fun b hb z => not_none ⟨_, hd⟩ (z ▸ nw b hb)
  refine ⟨rfl, ⟨⟨dx, upd_same⟩, (upd_ne nyl).trans (sm _ _ D.gl), D.four, ⟨_, rfl, ?_⟩, ?_, ?_, ?_, D.d3⟩, ⟨?_, ?_⟩⟩
  · exact CentreAt.kept ok fun b hb u e => (upd_ne (ny b hb)).trans e
  · exact D.gs.mono fun o ho og r => r.kept fun b hb u e => (upd_ne (D.d2 o ho b hb).1).trans (sm b u e)
  · intro b hb
    exact ⟨ny b hb, fun z => not_none ⟨_, D.gl⟩ (z ▸ nw b hb)⟩
  · intro o ho b hb
    exact ⟨(D.d2 o ho b hb).1, (D.d2 o ho b hb).2.1, fun z => not_none (D.gtracked ho b hb) (nw b z)⟩
  · intro b hb
    rcases yp_cases hb with h | h | h | ⟨o, ho, h⟩
    · exact .inl (h ▸ yp_y Y)
    · exact .inl (h ▸ yp_lg Y)
    · exact .inr (nw b h)
    · exact .inl (yp_g ho h)
  · intro b u hb e
    rw [upd_ne (ne_mem hb (yp_y Y))]
    exact sm b u e
/-- a new gate -/
theorem YardAt.newGate (D : YardAt CY CC CG H Y s) {i : Nat} {A' : GA} {g : Km259.Gate} (hi : i < Y.ga.length) (sm : Same H H') (nw : ∀ b ∈ A'.fp, H b = none) (ok : GateAt CG H' A' g []) :
    YStep CY CC CG H Y (upd H' Y.lg (.lst ((Y.ga.map gval).set i (.ref A'.a)))) { Y with ga := Y.ga.set i (some A') } (s.1, s.2.set i (some g)) := by
  have ho : Y.ga[i]? = some Y.ga[i] := List.getElem?_eq_getElem hi
  refine D.gateAt ho (fun b hb => .inr (nw b hb)) (fun b u _ nb e => (upd_ne nb).trans (sm b u e)) ?_ ?_
  · rw [upd_same, List.map_set]
    rfl
  · refine GateAt.kept ok fun b hb u e => ?_
    have nb : b ≠ Y.lg := fun z => not_none ⟨_, D.gl⟩ (z ▸ nw b hb)
    exact (upd_ne nb).trans e
end
end Cy

namespace Cy
open PySem PySem.Spec PyProof.Rows L2
open Km259Neutral (S)
abbrev sYInit : Stmt := inClass (top 48) 0
abbrev sStartC : Stmt := inClass (top 48) 1
abbrev sStartG : Stmt := inClass (top 48) 2
abbrev sToldBy : Stmt := top 52
abbrev sAnswers : Stmt := top 54
structure YarT (K : PySem.W.Frag) (mg : Str → Option Value) (C : Addr) : Prop where
  cl : Cls K C
  g : mg "Yard" = some (.ref C)
  centre : NoAttr K C "centre"
  gates : NoAttr K C "gates"
/-! ### what a start does, what a step does -/
def startC (s : S) (n : Nat) : S × List Int := if n = 0 ∨ 8 < n then (s, [-22, 0]) else (([some (Km259.centre0 n)], s.2), [0, 0])
def startG (s : S) (k me : Nat) : S × List Int := if 7 < me then (s, [-22, 0]) else ((s.1, s.2.set k (some (Km259.gate0 me))), [0, 0])
theorem startC_eq {s : S} {oc : Option Km259.Centre} (h : s.1 = [oc]) (n : Nat) : Km259Neutral.step0 s 0 (.cStart n) = startC s n := by
  obtain ⟨s1, s2⟩ := s
  have h : s1 = [oc] := h
  subst h
  unfold Km259Neutral.step0 startC
  rw [if_neg (by decide)]
  cases oc with
  | none =>
    show (if Km259Neutral.isStart (.cStart n) = true then _ else _) = _
    rw [if_pos (show Km259Neutral.isStart (.cStart n) = true from rfl)]
    by_cases e : n = 0 ∨ 8 < n
    · have ed : Km259.Centre.does (Km259.centre0 1) (.cStart n) = (Km259.centre0 1, [], .num (-22)) := by
        unfold Km259.Centre.does
        dsimp only
        rw [if_pos e]
      rw [if_pos e, ed]
      rfl
    · have ed : Km259.Centre.does (Km259.centre0 1) (.cStart n) = (Km259.centre0 n, [], .num 0) := by
        unfold Km259.Centre.does
        dsimp only
        rw [if_neg e]
      rw [if_neg e, ed]
      rfl
  | some a =>
    by_cases e : n = 0 ∨ 8 < n
    · have ed : Km259.Centre.does a (.cStart n) = (a, [], .num (-22)) := by
        unfold Km259.Centre.does
        dsimp only
        rw [if_pos e]
      rw [if_pos e]
      show (((([some a] : List (Option Km259.Centre)).set 0 (some (Km259.Centre.does a (.cStart n)).1), s2) : S), Km259Neutral.told (Km259.Centre.does a (.cStart n)).2) = _
      rw [ed]
      rfl
    · have ed : Km259.Centre.does a (.cStart n) = (Km259.centre0 n, [], .num 0) := by
        unfold Km259.Centre.does
        dsimp only
        rw [if_neg e]
      rw [if_neg e]
      show (((([some a] : List (Option Km259.Centre)).set 0 (some (Km259.Centre.does a (.cStart n)).1), s2) : S), Km259Neutral.told (Km259.Centre.does a (.cStart n)).2) = _
      rw [ed]
      rfl
theorem startG_eq {s : S} {k : Nat} (hk : k ≤ 3) (hl : s.2.length = 4) (me : Nat) : Km259Neutral.step1 s k (.gStart me) = startG s k me := by
  obtain ⟨s1, s2⟩ := s
  have hl : s2.length = 4 := hl
  unfold Km259Neutral.step1 startG
  rw [if_neg (by omega)]
  have hk' : k < s2.length := by omega
  show (match s2.getD k none with
    | some a => _
    | none => _) = _
  cases eo : s2.getD k none with
  | none =>
    show (if Km259Neutral.isStart (.gStart me) = true then _ else _) = _
    rw [if_pos (show Km259Neutral.isStart (.gStart me) = true from rfl)]
    by_cases e : 7 < me
    · have ed : Km259.Gate.does (Km259.gate0 0) (.gStart me) = (Km259.gate0 0, [], .num (-22)) := by
        unfold Km259.Gate.does
        dsimp only
        rw [if_pos e]
      rw [if_pos e, ed]
      rfl
    · have ed : Km259.Gate.does (Km259.gate0 0) (.gStart me) = (Km259.gate0 me, [], .num 0) := by
        unfold Km259.Gate.does
        dsimp only
        rw [if_neg e]
      rw [if_neg e, ed]
      rfl
  | some a =>
    by_cases e : 7 < me
    · have ed : Km259.Gate.does a (.gStart me) = (a, [], .num (-22)) := by
        unfold Km259.Gate.does
        dsimp only
        rw [if_pos e]
      rw [if_pos e]
      show (((s1, s2.set k (some (Km259.Gate.does a (.gStart me)).1)) : S), Km259Neutral.told (Km259.Gate.does a (.gStart me)).2) = _
      rw [ed]
      have es : s2.set k (some a) = s2 := by
        refine set_same ?_
        rw [List.getD_eq_getElem?_getD, List.getElem?_eq_getElem hk'] at eo
        rw [List.getElem?_eq_getElem hk']
        exact congrArg some eo
      rw [es]
      rfl
    · have ed : Km259.Gate.does a (.gStart me) = (Km259.gate0 me, [], .num 0) := by
        unfold Km259.Gate.does
        dsimp only
        rw [if_neg e]
      rw [if_neg e]
      show (((s1, s2.set k (some (Km259.Gate.does a (.gStart me)).1)) : S), Km259Neutral.told (Km259.Gate.does a (.gStart me)).2) = _
      rw [ed]
      rfl
theorem not_start {p : Nat} {xs r : List Nat} (h1 : p ≠ 0) (h7 : p ≠ 7) (hp : p < 12) : Km259Neutral.isStart (meant p xs r) = false := by
  rcases twelve hp with h | h | h | h | h | h | h | h | h | h | h | h <;> subst h <;> first | rfl | exact absurd rfl h1 | exact absurd rfl h7
theorem step0_eq {s : S} {oc : Option Km259.Centre} {x : Km259.Call} (h : s.1 = [oc]) (hs : Km259Neutral.isStart x = false) (hn : (Km259Neutral.step0 s 0 x).2 ≠ []) :
    ∃ c, oc = some c ∧ Km259Neutral.step0 s 0 x = (([some (c.does x).1], s.2), Km259Neutral.told (c.does x).2) := by
  obtain ⟨s1, s2⟩ := s
  have h : s1 = [oc] := h
  subst h
  unfold Km259Neutral.step0 at hn ⊢
  rw [if_neg (by decide)] at hn ⊢
  cases oc with
  | none =>
    exfalso
    have hn : (if Km259Neutral.isStart x = true then _ else ((([none], s2) : S), ([] : List Int))).2 ≠ [] := hn
    rw [hs, if_neg Bool.false_ne_true] at hn
    exact hn rfl
  | some c => exact ⟨c, rfl, rfl⟩
theorem step1_eq {s : S} {k : Nat} {x : Km259.Call} (hk : k ≤ 3) (hl : s.2.length = 4) (hs : Km259Neutral.isStart x = false) (hn : (Km259Neutral.step1 s k x).2 ≠ []) :
    ∃ g, s.2[k]? = some (some g) ∧ Km259Neutral.step1 s k x = ((s.1, s.2.set k (some (g.does x).1)), Km259Neutral.told (g.does x).2) := by
  obtain ⟨s1, s2⟩ := s
  have hl : s2.length = 4 := hl
  have hk' : k < s2.length := by omega
  unfold Km259Neutral.step1 at hn ⊢
  rw [if_neg (by omega)] at hn ⊢
  have eo : s2.getD k none = s2[k] := by
    rw [List.getD_eq_getElem?_getD, List.getElem?_eq_getElem hk']
    rfl
  dsimp only at hn ⊢
  cases e : s2.getD k none with
  | none =>
    exfalso
    rw [e] at hn
    dsimp only at hn
    rw [hs, if_neg Bool.false_ne_true] at hn
    exact hn rfl
  | some g =>
    refine ⟨g, ?_, rfl⟩
    rw [List.getElem?_eq_getElem hk', ← eo, e]
section
variable {P : Program} {w : World} {K : PySem.W.Frag} {mg : Str → Option Value} {base : Heap} {CY CC CG : Addr}
/-! ### __init__ -/
def spYInit (CY CC CG : Addr) : Sp := fun vs H Q _ => ∃ (p dx : Addr), vs = [.ref p] ∧ H p = some (.ins CY dx []) ∧
  ∀ (H' : Hp) (Y : YA), Y.y = p → YardAt CY CC CG H' Y Km259Neutral.start → (∀ b ∈ Y.fp, b = p ∨ H b = none) → (∀ b o, b ≠ p → H b = some o → H' b = some o) → Q .non H'
theorem scYInit : FnScope ["self"] ["self"] (defScope sYInit) := ⟨rfl, rfl, rfl, by decide +kernel, rfl, by decide +kernel, by decide +kernel⟩
theorem ok_yInit {f : Addr} {fd : FuncData} (F : Fun K "__init__" "Yard.__init__" sYInit f fd) (T : Txt K mg) (G : YarT K mg CY) : FnOk P w K mg base CX0 1 f fd ["self"] (spYInit CY CC CG) := by
  refine F.ok scYInit (fun vs H Q E h => ?_) (fun cdv A outer s H vs Q E hr h => ?_)
  · obtain ⟨p, dx, rfl, _⟩ := h
    rfl
  · obtain ⟨p, dx, rfl, hp, k⟩ := h
    refine ⟨_, pss_cons (ps_fld (pv 0) pe_non rfl) (pss_one (ps_fld (pv 0) (pe_op op_rep (pe_lst (pa_cons pe_non pa_nil)) (pe_gi rfl T.gGATE_OBJECTS)) rfl)), ?_⟩
    refine ⟨_, rfl, p, CY, dx, _, rfl, hp, G.cl, G.centre, (by show 0 < 1000; decide), ?_⟩
    refine ⟨(by show 1 ≤ sizeLine; decide), fun q0 hq0 => ?_⟩
    refine ⟨q0, _, _, rfl, rfl, upd_same, by decide, by decide, (by decide), fun q1 hq1 => ?_⟩
    have a0 : p ≠ q0 := ne_of_none upd_same hq0
    have a1 : p ≠ q1 := ne_of_none ((upd_ne a0).trans upd_same) hq1
    have a01 : q0 ≠ q1 := ne_of_none upd_same hq1
    refine ⟨_, rfl, p, CY, dx, _, rfl, (upd_ne a1).trans ((upd_ne a0).trans upd_same), G.cl, G.gates, fw (pl (Nat.le_refl 0)), ?_⟩
    have f0 : H q0 = none := by
      rw [upd_ne a0.symm] at hq0
      exact hq0
    have f1 : H q1 = none := by
      rw [upd_ne a01.symm, upd_ne a1.symm] at hq1
      exact hq1
    have no : ∀ o ∈ ([none, none, none, none] : List (Option GA)), o = none := by
      intro o ho
      simpa using ho
    refine k _ ⟨p, q1, none, [none, none, none, none]⟩ rfl ⟨⟨dx, upd_same.trans (congrArg (fun z => some (HO.ins CY dx z)) (yFs_new _ _))⟩, ?_, rfl, ⟨none, rfl, trivial⟩, ⟨trivial, trivial, trivial, trivial, trivial⟩, (fun b hb => nomatch hb), ?_, ?_⟩ ?_ ?_
    · show upd _ p _ q1 = _
      rw [upd_ne a1.symm, upd_same]
      rfl
    · intro o ho b hb
      rw [no o ho] at hb
      cases hb
    · intro i j o o' _ e _ b hb
      rw [no o (mem_of e)] at hb
      cases hb
    · intro b hb
      rcases yp_cases hb with h | h | h | ⟨o, ho, h⟩
      · exact .inl h
      · exact .inr (by rw [h]; exact f1)
      · cases h
      · rw [no o ho] at h
        cases h
    · intro b o nb e
      rw [upd_ne nb, upd_ne (ne_of_none e f1), upd_ne (ne_of_none e f0), upd_ne nb]
      exact e
/-! ### start_centre, start_gate -/
def spStartC (CY CC CG : Addr) : Sp := fun vs H Q _ => ∃ (Y : YA) (s : S) (n : Nat), vs = [.ref Y.y, .int (n : Int)] ∧ YardAt CY CC CG H Y s ∧
  ∀ (H' : Hp) (Y' : YA) (z : Addr), YStep CY CC CG H Y H' Y' (startC s n).1 → (∀ b o, b ∉ Y.fp → H b = some o → b ≠ z) → H' z = some (.lst ((startC s n).2.map V.int)) → Q (.ref z) H'
theorem scStartC : FnScope ["self", "many"] ["self", "many"] (defScope sStartC) := ⟨rfl, rfl, rfl, by decide +kernel, rfl, by decide +kernel, by decide +kernel⟩
theorem YStep.apart {H H1 : Hp} {Y Y1 : YA} {s1 : S} (T : YStep CY CC CG H Y H1 Y1 s1) {z : Addr} (hz : H1 z = none) : ∀ b o, b ∉ Y.fp → H b = some o → b ≠ z := fun b o hb e => ne_of_none (T.gr.keep b o hb e) hz
theorem ok_startC {f : Addr} {fd : FuncData} (F : Fun K "start_centre" "Yard.start_centre" sStartC f fd) (T : Txt K mg) (G : YarT K mg CY) (GC : CenT K mg CC) (dI : Mkr P w K mg base CC 1 ["self", "gates"] (spCInit CC)) : FnOk P w K mg base CX0 3 f fd ["self", "many"] (spStartC CY CC CG) := by
  obtain ⟨fI, fdI, MI, bI, GI⟩ := dI.ex
  refine F.ok scStartC (fun vs H Q E h => ?_) (fun cdv A outer s H vs Q E hr h => ?_)
  · obtain ⟨Y, s, n, rfl, _⟩ := h
    rfl
  · obtain ⟨Y, st, n, rfl, D, k⟩ := h
    obtain ⟨dx, hd⟩ := D.obj
    refine ⟨_, pss_cons (ps_if (PW.pt (pw_or (pt_cmpR op_lt (pv 1) pe_int (nomark _)) (pw_or1 (pt_cmpR op_gt (pv 1) (pe_gi rfl T.gMOST_GATES) (nomark _))))) (pss_one (ps_ret (pe_lst (pa_cons (pe_gi rfl T.gOUT_OF_RANGE_desk) (pa_cons pe_int pa_nil))))) pss_nil)
      (pss_cons (ps_fld (pv 0) (pe_make MI GI hr rfl GC.g bI .nil pass0 (pa_cons (pv 1) pa_nil)) rfl)
      (pss_one (ps_ret (pe_lst (pa_cons pe_int (pa_cons pe_int pa_nil)))))), ?_⟩
    have bad : (n = 0 ∨ 8 < n) → [V.int (-22), V.int 0].length ≤ sizeLine ∧ ∀ p, H p = none → Q (.ref p) (upd H p (.lst [V.int (-22), V.int 0])) := by
      intro c
      refine ⟨(by show 2 ≤ sizeLine; decide), fun p hp => ?_⟩
      have e : startC st n = (st, [-22, 0]) := by
        unfold startC
        rw [if_pos c]
      have T0 : YStep CY CC CG H Y H Y st := D.stepSame (Same.refl H)
      refine k _ Y p ?_ (T0.apart hp) ?_
      · rw [e]
        exact D.stepSame (same_new (Same.refl H) hp)
      · rw [e, upd_same]
        rfl
    refine ⟨_, rfl, _, _, rfl, rfl, _, rfl, ?_⟩
    refine iteD (fun c => iteT (bad (.inl (by omega)))) (fun c1 => ?_)
    refine ⟨_, rfl, _, _, rfl, rfl, _, rfl, ?_⟩
    refine iteD (fun c => bad (.inr (by omega))) (fun c2 => ?_)
    refine ⟨_, rfl, fun x dc nx ndx nex => ?_⟩
    refine ⟨x, dc, n, rfl, by omega, by omega, upd_same, fun H1 A1 ea gat fr kp => ⟨rfl, ?_⟩⟩
    have sm : Same H H1 := fun b o e => by
      have nb : b ≠ x := ne_of_none e nx
      refine kp b o nb ?_
      rw [upd_ne nb, upd_ne (ne_of_none e ndx)]
      exact e
    have nw : ∀ b ∈ A1.fp, H b = none := fun b hb => by
      rcases fr b hb with h | h
      · rw [h]
        exact nx
      · by_cases e1 : b = x
        · rw [e1]
          exact nx
        · rw [upd_ne e1] at h
          by_cases e2 : b = dc
          · rw [e2]
            exact ndx
          · rw [upd_ne e2] at h
            exact h
    refine ⟨_, rfl, Y.y, CY, dx, _, rfl, sm _ _ hd, G.cl, G.centre, (by show 2 < 1000; decide), ?_⟩
    have TS : YStep CY CC CG H Y (upd H1 Y.y (.ins CY dx (putF "centre" (.ref x) (yFs (cval Y.ca) (.ref Y.lg))))) { Y with ca := some A1 } ([some (Km259.centre0 n)], st.2) := by
      rw [yFs_put_centre, ← ea]
      exact D.newCentre hd sm nw gat
    refine ⟨(by show 2 ≤ sizeLine; decide), fun p hp => ?_⟩
    have e : startC st n = (([some (Km259.centre0 n)], st.2), [0, 0]) := by
      unfold startC
      rw [if_neg (by omega)]
    refine k _ { Y with ca := some A1 } p ?_ (TS.apart hp) ?_
    · rw [e]
      exact TS.trans (TS.ok.stepSame (same_new (Same.refl _) hp))
    · rw [e, upd_same]
      rfl
def spStartG (CY CC CG : Addr) : Sp := fun vs H Q _ => ∃ (Y : YA) (s : S) (i me : Nat), vs = [.ref Y.y, .int (i : Int), .int (me : Int)] ∧ YardAt CY CC CG H Y s ∧ i ≤ 3 ∧
  ∀ (H' : Hp) (Y' : YA) (z : Addr), YStep CY CC CG H Y H' Y' (startG s i me).1 → (∀ b o, b ∉ Y.fp → H b = some o → b ≠ z) → H' z = some (.lst ((startG s i me).2.map V.int)) → Q (.ref z) H'
theorem scStartG : FnScope ["self", "number", "me"] ["self", "number", "me"] (defScope sStartG) := ⟨rfl, rfl, rfl, by decide +kernel, rfl, by decide +kernel, by decide +kernel⟩
theorem ok_startG {f : Addr} {fd : FuncData} (F : Fun K "start_gate" "Yard.start_gate" sStartG f fd) (T : Txt K mg) (G : YarT K mg CY) (GG : GateT K mg CG) (dI : Mkr P w K mg base CG 1 ["self", "me"] (spGInit CG)) : FnOk P w K mg base CX0 3 f fd ["self", "number", "me"] (spStartG CY CC CG) := by
  obtain ⟨fI, fdI, MI, bI, GI⟩ := dI.ex
  refine F.ok scStartG (fun vs H Q E h => ?_) (fun cdv A outer s H vs Q E hr h => ?_)
  · obtain ⟨Y, s, i, me, rfl, _⟩ := h
    rfl
  · obtain ⟨Y, st, i, me, rfl, D, hi, k⟩ := h
    obtain ⟨dx, hd⟩ := D.obj
    have hi4 : i < Y.ga.length := by
      rw [D.four]
      omega
    refine ⟨_, pss_cons (ps_if (pt_cmpR op_gt (pv 2) (pe_gi rfl T.gLAST_GATE) (nomark _)) (pss_one (ps_ret (pe_lst (pa_cons (pe_gi rfl T.gOUT_OF_RANGE_desk) (pa_cons pe_int pa_nil))))) pss_nil)
      (pss_cons (ps_asg (pe_make MI GI hr rfl GG.g bI .nil pass0 (pa_cons (pv 2) pa_nil)) (pg_sub (pe_fld (pv 0) rfl) (pv 1) set_list))
      (pss_one (ps_ret (pe_lst (pa_cons pe_int (pa_cons pe_int pa_nil)))))), ?_⟩
    refine ⟨_, rfl, _, _, rfl, rfl, _, rfl, ?_⟩
    refine iteD (fun c => ?_) (fun c => ?_)
    · refine ⟨(by show 2 ≤ sizeLine; decide), fun p hp => ?_⟩
      have e : startG st i me = (st, [-22, 0]) := by
        unfold startG
        rw [if_pos (by omega)]
      have T0 : YStep CY CC CG H Y H Y st := D.stepSame (Same.refl H)
      refine k _ Y p ?_ (T0.apart hp) ?_
      · rw [e]
        exact D.stepSame (same_new (Same.refl H) hp)
      · rw [e, upd_same]
        rfl
    · refine ⟨_, rfl, fun x dc nx ndx nex => ?_⟩
      refine ⟨x, dc, me, rfl, upd_same, fun H1 A1 ea gat fr kp => ⟨rfl, ?_⟩⟩
      have sm : Same H H1 := fun b o e => by
        have nb : b ≠ x := ne_of_none e nx
        refine kp b o nb ?_
        rw [upd_ne nb, upd_ne (ne_of_none e ndx)]
        exact e
      have nw : ∀ b ∈ A1.fp, H b = none := fun b hb => by
        rcases fr b hb with h | h
        · rw [h]
          exact nx
        · by_cases e1 : b = x
          · rw [e1]
            exact nx
          · rw [upd_ne e1] at h
            by_cases e2 : b = dc
            · rw [e2]
              exact ndx
            · rw [upd_ne e2] at h
              exact h
      refine ⟨_, rfl, Y.y, CY, dx, _, _, rfl, sm _ _ hd, G.cl, G.gates, yFs_gates _ _, _, rfl, Y.lg, _, _, i, rfl, rfl, sm _ _ D.gl, ?_, ?_⟩
      · unfold ixN
        rw [if_pos (Int.natCast_nonneg _), if_pos (by rw [List.length_map]; omega), Int.toNat_natCast]
      have TS : YStep CY CC CG H Y (upd H1 Y.lg (.lst ((Y.ga.map gval).set i (.ref x)))) { Y with ga := Y.ga.set i (some A1) } (st.1, st.2.set i (some (Km259.gate0 me))) := by
        rw [← ea]
        exact D.newGate hi4 sm nw gat
      refine ⟨(by show 2 ≤ sizeLine; decide), fun p hp => ?_⟩
      have e : startG st i me = ((st.1, st.2.set i (some (Km259.gate0 me))), [0, 0]) := by
        unfold startG
        rw [if_neg (by omega)]
      refine k _ { Y with ga := Y.ga.set i (some A1) } p ?_ (TS.apart hp) ?_
      · rw [e]
        exact TS.trans (TS.ok.stepSame (same_new (Same.refl _) hp))
      · rw [e, upd_same]
        rfl
end
end Cy

namespace Cy
open PySem PySem.Spec PyProof.Rows L2
open Km259Neutral (S)
theorem numb_pos {p : Nat} (h : p < 12) : 1 ≤ NUMB.getD p 0 := by
  have all : ∀ q : Fin 12, 1 ≤ NUMB.getD q.val 0 := by decide
  exact all ⟨p, h⟩
section
variable {P : Program} {w : World} {K : PySem.W.Frag} {mg : Str → Option Value} {base : Heap} {CY CC CG : Addr}
/-! ### told_by -/
def spToldBy (K : PySem.W.Frag) (CY CC CG : Addr) : Sp := fun vs H Q _ => ∃ (Y : YA) (s : S) (p : Nat) (nl rl : Addr) (xs r : List Nat), vs = [.ref Y.y, .int (p : Int), .ref nl, .ref rl] ∧ YardAt CY CC CG H Y s ∧ SqL K H nl (iv xs) ∧ SqL K H rl (iv r) ∧ Fine p xs r ∧
  (Km259Neutral.step s (callI p xs r)).2 ≠ [] ∧ (Km259Neutral.step s (callI p xs r)).2.length ≤ 10000000 ∧
  ∀ (H' : Hp) (Y' : YA) (z : Addr), YStep CY CC CG H Y H' Y' (Km259Neutral.step s (callI p xs r)).1 → (∀ b o, b ∉ Y.fp → H b = some o → b ≠ z) → H' z = some (.lst ((Km259Neutral.step s (callI p xs r)).2.map V.int)) → Q (.ref z) H'
theorem scToldBy : FnScope ["yard", "word", "numbers", "row", "answer", "gate"] ["yard", "word", "numbers", "row"] (defScope sToldBy) := ⟨rfl, rfl, rfl, by decide +kernel, rfl, by decide +kernel, by decide +kernel⟩
theorem ok_toldBy {f : Addr} {fd : FuncData} (F : Fun K "told_by" "told_by" sToldBy f fd) (T : Txt K mg) (G : YarT K mg CY) (GC : CenT K mg CC) (GG : GateT K mg CG) (d1 : Mth P w K mg base CY "start_centre" 3 ["self", "many"] (spStartC CY CC CG)) (d2 : Mth P w K mg base CY "start_gate" 3 ["self", "number", "me"] (spStartG CY CC CG))
    (d3 : Def P w K mg base "centre_done" 7 ["centre", "word", "row"] (spCDone K CC)) (d4 : Def P w K mg base "gate_done" 7 ["gate", "word", "numbers", "row"] (spGDone K CG)) (d5 : Def P w K mg base "things_told" 1 ["holder"] (spThings K)) :
    FnOk P w K mg base CX0 8 f fd ["yard", "word", "numbers", "row"] (spToldBy K CY CC CG) := by
  obtain ⟨f1, fd1, m1, b1, G1⟩ := d1.ex
  obtain ⟨f2, fd2, m2, b2, G2⟩ := d2.ex
  obtain ⟨f3, fd3, m3, k3, b3, G3⟩ := d3.ex
  obtain ⟨f4, fd4, m4, k4, b4, G4⟩ := d4.ex
  obtain ⟨f5, fd5, m5, k5, b5, G5⟩ := d5.ex
  refine F.ok scToldBy (fun vs H Q E h => ?_) (fun cdv A outer s H vs Q E hr h => ?_)
  · obtain ⟨Y, s, p, nl, rl, xs, r, rfl, _⟩ := h
    rfl
  · obtain ⟨Y, st, p, nl, rl, xs, r, rfl, D, hN, hR, Fi, hne, hle, k⟩ := h
    obtain ⟨dx, hd⟩ := D.obj
    obtain ⟨oc, eoc, hcr⟩ := D.one
    have hr3 : Room 3 _ := hr.mono (by decide)
    have hr1 : Room 1 _ := hr.mono (by decide)
    refine ⟨_, pss_cons (ps_if (pt_cmpR op_eq (pv 1) pe_int (nomark _)) (pss_one (ps_ret (pe_meth (pv 0) G.cl m1 G1 hr3 b1 .nil pass0 (pa_cons (pe_ix ix_list (pv 2) pe_int (fun _ _ => rfl)) pa_nil)))) pss_nil)
      (pss_cons (ps_if (pt_cmpR op_eq (pv 1) (pe_gi rfl T.gFIRST_OF_GATE) (nomark _)) (pss_one (ps_ret (pe_meth (pv 0) G.cl m2 G2 hr3 b2 .nil pass0 (pa_cons (pe_ix ix_list (pv 2) pe_int (fun _ _ => rfl)) (pa_cons (pe_ix ix_list (pv 2) pe_int (fun _ _ => rfl)) pa_nil))))) pss_nil)
      (pss_cons (ps_if (pt_cmpR op_lt (pv 1) (pe_gi rfl T.gFIRST_OF_GATE) (nomark _))
        (pss_cons (ps_set (i := 4) scToldBy.nd rfl (.inl rfl) (pe_call G3 hr rfl m3 k3 b3 .nil pass0 (pa_cons (pe_fld (pv 0) rfl) (pa_cons (pv 1) (pa_cons (pv 3) pa_nil)))))
          (pss_one (ps_ret (pe_op op_cat (pv 4) (pe_call G5 hr1 rfl m5 k5 b5 .nil pass0 (pa_cons (pe_fld (pv 0) rfl) pa_nil)))))) pss_nil)
      (pss_cons (ps_set (i := 5) scToldBy.nd rfl (.inl rfl) (pe_ix ix_list (pe_fld (pv 0) rfl) (pe_ix ix_list (pv 2) pe_int (fun _ _ => rfl)) (fun _ _ => rfl)))
      (pss_cons (ps_set (i := 4) scToldBy.nd rfl (.inl rfl) (pe_call G4 hr rfl m4 k4 b4 .nil pass0 (pa_cons (pv 5) (pa_cons (pv 1) (pa_cons (pv 2) (pa_cons (pv 3) pa_nil))))))
      (pss_one (ps_ret (pe_op op_cat (pv 4) (pe_call G5 hr1 rfl m5 k5 b5 .nil pass0 (pa_cons (pv 5) pa_nil))))))))), ?_⟩
    have es := (step_eq st Fi).2
    have hlx := Fi.len
    have hl4 : st.2.length = 4 := by rw [← D.gs.len]; exact D.four
    have hx0 : xs[0]? = some (xs.getD 0 0) := getD_item (by rw [hlx]; exact numb_pos Fi.lt)
    refine ⟨_, rfl, rfl, _, rfl, ?_⟩
    refine iteI (fun z => ?_) (fun z0 => ?_)
    · -- ce_start
      have e : p = 0 := by omega
      subst e
      rw [if_pos (by decide)] at es
      have es' : Km259Neutral.step st (callI 0 xs r) = startC st (xs.getD 1 0) := es.trans (startC_eq eoc _)
      have hx1 : xs[1]? = some (xs.getD 1 0) := getD_item (by rw [hlx]; decide)
      refine ⟨_, rfl, Y.y, dx, _, rfl, hd, yFs_no_start_centre _ _, _, rfl, nl, _, _, _, rfl, rfl, hN, atI_nat (j := 1) (iv_item hx1), Y, st, xs.getD 1 0, rfl, D, fun H' Y' z hs ha hz => ?_⟩
      rw [es'] at k
      exact k H' Y' z hs ha hz
    refine ⟨_, rfl, rfl, _, rfl, ?_⟩
    refine iteI (fun z => ?_) (fun z7 => ?_)
    · -- gt_start
      have e : p = 7 := by omega
      subst e
      rw [if_neg (by decide)] at es
      have es' : Km259Neutral.step st (callI 7 xs r) = startG st (xs.getD 0 0) (xs.getD 1 0) := es.trans (startG_eq Fi.gat hl4 _)
      have hx1 : xs[1]? = some (xs.getD 1 0) := getD_item (by rw [hlx]; decide)
      refine ⟨_, rfl, Y.y, dx, _, rfl, hd, yFs_no_start_gate _ _, _, rfl, nl, _, _, _, rfl, rfl, hN, atI_nat (j := 0) (iv_item hx0), _, rfl, nl, _, _, _, rfl, rfl, hN, atI_nat (j := 1) (iv_item hx1), Y, st, xs.getD 0 0, xs.getD 1 0, rfl, D, Fi.gat, fun H' Y' z hs ha hz => ?_⟩
      rw [es'] at k
      exact k H' Y' z hs ha hz
    have ns := not_start (xs := xs) (r := r) (fun e => z0 (by rw [e]; rfl)) (fun e => z7 (by rw [e]; rfl)) Fi.lt
    refine ⟨_, rfl, _, _, rfl, rfl, _, rfl, ?_⟩
    refine iteD (fun hc => ?_) (fun hc => ?_)
    · -- the centre's calls
      have hp7 : p < 7 := by omega
      rw [if_pos hp7] at es
      rw [es] at hne hle k
      obtain ⟨c, eo, e0⟩ := step0_eq eoc ns hne
      rw [e0] at hle k
      subst eo
      obtain ⟨A1, ea, gat⟩ : ∃ A1, Y.ca = some A1 ∧ CentreAt CC H A1 c [] := by
        cases e : Y.ca with
        | none =>
          rw [e] at hcr
          exact hcr.elim
        | some A1 =>
          rw [e] at hcr
          exact ⟨A1, rfl, hcr⟩
      have hd' : H Y.y = some (.ins CY dx (yFs (.ref A1.a) (.ref Y.lg))) := by
        rw [ea] at hd
        exact hd
      refine ⟨_, rfl, Y.y, CY, dx, _, _, rfl, hd', G.cl, G.centre, yFs_centre _ _, _, rfl, _, rfl, A1, c, p, rl, xs, r, rfl, gat, hR, Fi.byt, ?_, by omega, fun H1 A2 q c1 t an ed S1 nq hq => ?_⟩
      · have : (p : Int) ≠ 0 := z0
        omega
      have ny : Y.y ∉ A1.fp := fun zz => (D.d1 _ (by rw [ea]; exact zz)).1 rfl
      have hd1 := S1.gr.keep _ _ ny hd'
      obtain ⟨d1', ho1⟩ := S1.ok.obj
      have et : Km259Neutral.told (c.does (meant p xs r)).2 = ansL an ++ toldL t := by
        rw [ed]
        exact told_eq (t, an)
      have hle' : (ansL an).length + (toldL t).length ≤ 10000000 := by
        rw [← List.length_append, ← et]
        exact hle
      refine ⟨_, rfl, _, rfl, Y.y, CY, dx, _, _, rfl, hd1, G.cl, G.centre, yFs_centre _ _, CC, d1', A2.a, A2.lt, _, A2.ts, t, one_ref S1.same, ho1, GC.cl, GC.things, cFs_things _ _ _ _ _ _ _ _, (by show 8 < 1000; decide), S1.ok.tl, S1.ok.tt, by omega, fun H2 p2 q2 np nq2 hp2 hq2 ha2 kp2 => ?_⟩
      have hq' : H2 q = _ := kp2 q _ (fun zz => nq (zz ▸ cp_a A2)) hq
      refine ⟨q, p2, _, _, rfl, rfl, hq', hp2, (by rw [List.length_map, List.length_map, sizeLine_eq]; omega), fun z hz => ?_⟩
      have T2 : CStep CC H1 A2 H2 { A2 with lt := q2, ts := [] } c1 [] := by
        refine S1.ok.quiet ho1 nq2 kp2 ?_ hq2
        rw [ha2, cFs_put_things]
      have YT := D.centre ea (S1.trans T2)
      refine k _ { Y with ca := some { A2 with lt := q2, ts := [] } } z ?_ (YT.apart hz) ?_
      · have e1 : (c.does (meant p xs r)).1 = c1 := by rw [ed]
        rw [e1]
        exact YT.trans (YT.ok.stepSame (same_new (Same.refl H2) hz))
      · rw [upd_same, et, List.map_append]
    · -- a gate's calls
      have hp7 : ¬ p < 7 := by omega
      rw [if_neg hp7] at es
      rw [es] at hne hle k
      obtain ⟨g, hg, e0⟩ := step1_eq Fi.gat hl4 ns hne
      rw [e0] at hle k
      have hk4 : xs.getD 0 0 < Y.ga.length := by
        rw [D.four]
        have := Fi.gat
        omega
      obtain ⟨A1, ea, gat⟩ : ∃ A1, Y.ga[xs.getD 0 0]? = some (some A1) ∧ GateAt CG H A1 g [] := by
        have ha := List.getElem?_eq_getElem hk4
        have rel := D.gs.both ha hg
        cases e : Y.ga[xs.getD 0 0] with
        | none =>
          rw [e] at rel
          exact rel.elim
        | some A1 =>
          rw [e] at rel ha
          exact ⟨A1, ha, rel⟩
      have hit : (Y.ga.map gval)[xs.getD 0 0]? = some (.ref A1.a) := by
        rw [List.getElem?_map, ea]
        rfl
      refine ⟨_, rfl, Y.y, CY, dx, _, _, rfl, hd, G.cl, G.gates, yFs_gates _ _, _, rfl, nl, _, _, _, rfl, rfl, hN, atI_nat (j := 0) (iv_item hx0), Y.lg, _, _, _, rfl, rfl, SqL.of D.gl, atI_nat hit, ?_⟩
      refine ⟨_, rfl, _, rfl, _, rfl, _, rfl, A1, g, p, nl, rl, xs, r, rfl, gat, hN, hR, Fi.byt, (fun e => by rw [hlx, e]; rfl), ?_, by have := Fi.lt; omega, fun H1 A2 q c1 t an ed S1 nq hq => ?_⟩
      · have h7 : (p : Int) ≠ 7 := z7
        omega
      obtain ⟨d1', ho1⟩ := S1.ok.obj
      have et : Km259Neutral.told (g.does (meant p xs r)).2 = ansL an ++ toldL t := by
        rw [ed]
        exact told_eq (t, an)
      have hle' : (ansL an).length + (toldL t).length ≤ 10000000 := by
        rw [← List.length_append, ← et]
        exact hle
      refine ⟨_, rfl, _, rfl, CG, d1', A2.a, A2.lt, _, A2.ts, t, one_ref S1.same, ho1, GG.cl, GG.things, gFs_things _ _ _ _ _ _ _, (by show 7 < 1000; decide), S1.ok.tl, S1.ok.tt, by omega, fun H2 p2 q2 np nq2 hp2 hq2 ha2 kp2 => ?_⟩
      have hq' : H2 q = _ := kp2 q _ (fun zz => nq (zz ▸ fp_a A2)) hq
      refine ⟨q, p2, _, _, rfl, rfl, hq', hp2, (by rw [List.length_map, List.length_map, sizeLine_eq]; omega), fun z hz => ?_⟩
      have T2 : GStep CG H1 A2 H2 { A2 with lt := q2, ts := [] } c1 [] := by
        refine S1.ok.quiet ho1 nq2 kp2 ?_ hq2
        rw [ha2, gFs_put_things]
      have YT := D.gate ea (S1.trans T2)
      refine k _ { Y with ga := Y.ga.set (xs.getD 0 0) (some { A2 with lt := q2, ts := [] }) } z ?_ (YT.apart hz) ?_
      · have e1 : (g.does (meant p xs r)).1 = c1 := by rw [ed]
        rw [e1]
        exact YT.trans (YT.ok.stepSame (same_new (Same.refl H2) hz))
      · rw [upd_same, et, List.map_append]
/-! ### answers -/
def spAns (K : PySem.W.Frag) : Sp := fun vs H Q _ => ∃ (a : Addr) (ns : List Int), vs = [.ref a] ∧ SqL K H a (ns.map V.int) ∧ (∀ z ∈ ns, 0 ≤ z) ∧ PyKm259.answers_asked ns = true ∧
  ∀ (H' : Hp) (p : Addr), H' p = some (.lst ((PyKm259.answers ns).map V.int)) → Q (.ref p) H'
theorem scAns : FnScope ["calls", "yard", "found", "at", "word", "numbers", "row", "told"] ["calls"] (defScope sAnswers) := ⟨rfl, rfl, rfl, by decide +kernel, rfl, by decide +kernel, by decide +kernel⟩
theorem nums_back {ns : List Int} (h : ∀ z ∈ ns, 0 ≤ z) : Km259Neutral.nums (ns.map Int.toNat) = ns := by
  unfold Km259Neutral.nums
  rw [List.map_map]
  have e : ns.map ((fun (x : Nat) => (x : Int)) ∘ Int.toNat) = ns.map id := List.map_congr_left fun z hz => Int.toNat_of_nonneg (h z hz)
  rw [e, List.map_id]
theorem asked_parts {ns : List Int} (h : PyKm259.answers_asked ns = true) : ∃ cs, PyFlat.calls PyKm259.shape ns.length ns = some cs ∧ (∀ c ∈ cs, PyInside.call PyKm259.bound c = true) ∧ Km259Neutral.may Km259Neutral.start (cs.map PyKm259.whole) = true ∧
    (PyKm259.answers ns).length ≤ 10000000 ∧ PyKm259.answers ns = PyFlat.told (PyFlat.played Km259Neutral.step Km259Neutral.start (cs.map PyKm259.whole)) := by
  unfold PyKm259.answers_asked at h
  cases e : PyFlat.calls PyKm259.shape ns.length ns with
  | none =>
    rw [e] at h
    cases h
  | some cs =>
    rw [e] at h
    have h : ((((!cs.isEmpty && PyFlat.atMost 1000 cs) && PyInside.calls PyKm259.bound cs) && Km259Neutral.asked (cs.map PyKm259.whole)) && PyFlat.short 10000000 (PyKm259.answers ns)) = true := h
    rw [Bool.and_eq_true, Bool.and_eq_true, Bool.and_eq_true] at h
    obtain ⟨⟨⟨_, h2⟩, h3⟩, h4⟩ := h
    refine ⟨cs, rfl, ?_, ?_, of_decide_eq_true h4, ?_⟩
    · unfold PyInside.calls at h2
      exact fun c hc => List.all_eq_true.mp h2 c hc
    · unfold Km259Neutral.asked at h3
      rw [Bool.and_eq_true, Bool.and_eq_true, Bool.and_eq_true] at h3
      exact h3.2.2.2
    · unfold PyKm259.answers PyKm259.calls
      rw [e]
theorem ok_answers {f : Addr} {fd : FuncData} (F : Fun K "answers" "answers" sAnswers f fd) (T : Txt K mg) (G : YarT K mg CY) (dY : Mkr P w K mg base CY 1 ["self"] (spYInit CY CC CG)) (dC : Def P w K mg base "call_at" 1 ["calls", "at"] (spCallAt K)) (dT : Def P w K mg base "told_by" 8 ["yard", "word", "numbers", "row"] (spToldBy K CY CC CG)) :
    FnOk P w K mg base CX0 9 f fd ["calls"] (spAns K) := by
  obtain ⟨fY, fdY, MY, bY, GY⟩ := dY.ex
  obtain ⟨fC, fdC, mC, kC, bC, GC⟩ := dC.ex
  obtain ⟨fT, fdT, mT, kT, bT, GT⟩ := dT.ex
  refine F.ok scAns (fun vs H Q E h => ?_) (fun cdv A outer s H vs Q E hr h => ?_)
  · obtain ⟨a, ns, rfl, _⟩ := h
    rfl
  · obtain ⟨a, ns, rfl, hS0, hnn, hask, k⟩ := h
    obtain ⟨cs0, ec0, hin0, hmay0, hlen, eans⟩ := asked_parts hask
    have hr2 : Room 2 _ := hr.mono (by decide)
    have hr1 : Room 1 _ := hr.mono (by decide)
    refine ⟨_, pss_cons (ps_set (i := 1) scAns.nd rfl (.inl rfl) (pe_make0 MY GY hr2 rfl G.g bY .nil pass0))
      (pss_cons (ps_set (i := 2) scAns.nd rfl (.inl rfl) (pe_lst pa_nil))
      (pss_cons (ps_set (i := 3) scAns.nd rfl (.inl rfl) pe_int)
      (pss_cons (ps_while PassesOwn.never (pt_cmpR op_lt (pv 3) (pe_callB call_len_seq rfl T.len PySem.boot_len (pa_cons (pv 0) pa_nil)) (nomark _))
        (pss_cons (ps_asg (pe_call GC hr1 rfl mC kC bC .nil pass0 (pa_cons (pv 0) (pa_cons (pv 3) pa_nil))) (pg_tup rfl (pgs_cons (pg_name (i := 4) scAns.nd rfl (.inl rfl)) (pgs_cons (pg_name (i := 5) scAns.nd rfl (.inl rfl)) (pgs_cons (pg_name (i := 6) scAns.nd rfl (.inl rfl)) (pgs_cons (pg_name (i := 3) scAns.nd rfl (.inl rfl)) pgs_nil))))))
        (pss_cons (ps_set (i := 7) scAns.nd rfl (.inl rfl) (pe_call GT hr rfl mT kT bT .nil pass0 (pa_cons (pv 1) (pa_cons (pv 4) (pa_cons (pv 5) (pa_cons (pv 6) pa_nil))))))
        (pss_cons (ps_expr (pe_bm PySem.F.plainAttrs_list PySem.F.slot_list_append PySem.F.type_list_append mt_append (pv 2) (pa_cons (pe_callB call_len_seq rfl T.len PySem.boot_len (pa_cons (pv 7) pa_nil)) pa_nil)))
        (pss_one (ps_expr (pe_bm PySem.F.plainAttrs_list PySem.F.slot_list_extend PySem.F.type_list_extend mt_extend (pv 2) (pa_cons (pv 7) pa_nil))))))))
      (pss_one (ps_ret (pv 2)))))), ?_⟩
    have ems := nums_back hnn
    generalize ns.map Int.toNat = ms at ems
    have hS : SqL K H a (iv ms) := by
      rw [← nums_iv, ems]
      exact hS0
    intro x dx nx ndx nex
    refine ⟨x, dx, rfl, upd_same, fun H1 Y1 ey D1 fr kp => ⟨rfl, ?_⟩⟩
    have s1 : Same H H1 := fun b o e => by
      have nb : b ≠ x := ne_of_none e nx
      refine kp b o nb ?_
      rw [upd_ne nb, upd_ne (ne_of_none e ndx)]
      exact e
    have nw : ∀ b ∈ Y1.fp, H b = none := fun b hb => by
      rcases fr b hb with h | h
      · rw [h]
        exact nx
      · by_cases e1 : b = x
        · rw [e1]
          exact nx
        · rw [upd_ne e1] at h
          by_cases e2 : b = dx
          · rw [e2]
            exact ndx
          · rw [upd_ne e2] at h
            exact h
    refine ⟨Nat.zero_le _, fun fl hfl => ?_⟩
    have nfl : H fl = none := s1.free hfl
    have s2 : Same H1 (upd H1 fl (.lst [])) := same_new (Same.refl H1) hfl
    refine ⟨fun m σ H' => ∃ (i fu : Nat) (cs : List (List (List Int))) (st : S) (Y : YA) (done : List Int) (v4 v5 v6 v7 : Option V), m = ms.length - i ∧
      σ = [some (.ref a), some (.ref Y.y), some (.ref fl), some (.int (i : Int)), v4, v5, v6, v7] ∧ i ≤ ms.length ∧ PyFlat.calls PyKm259.shape fu (Km259Neutral.nums (ms.drop i)) = some cs ∧ (∀ c ∈ cs, PyInside.call PyKm259.bound c = true) ∧ Km259Neutral.may st (cs.map PyKm259.whole) = true ∧
      done ++ PyFlat.told (PyFlat.played Km259Neutral.step st (cs.map PyKm259.whole)) = PyKm259.answers ns ∧ YardAt CY CC CG H' Y st ∧ (∀ b ∈ Y.fp, H b = none) ∧ fl ∉ Y.fp ∧ H' fl = some (.lst (done.map V.int)) ∧ Same H H', ⟨_, 0, ns.length, cs0, Km259Neutral.start, Y1, [], none, none, none, none, rfl, ?_, Nat.zero_le _, ?_, hin0, hmay0, ?_, ?_, nw, ?_, upd_same, s1.trans s2⟩, ?_⟩
    · rw [ey]
      rfl
    · rw [List.drop_zero, ems]
      exact ec0
    · rw [eans]
      rfl
    · exact D1.kept fun b _ u e => s2 b u e
    · intro z
      exact not_none (D1.tracked fl z) hfl
    · rintro m σ H' ⟨i, fu, cs, st, Y, done, v4, v5, v6, v7, rfl, rfl, hi, ecs, hin, hmay, eeq, D, nwY, nf, hf, sH⟩
      have hSa : SqL K H' a (iv ms) := sH.seq hS
      refine ⟨_, rfl, _, rfl, a, _, rfl, .inl hSa, _, _, rfl, rfl, _, rfl, ?_⟩
      rw [iv_len]
      refine iteD (fun hlt => ?_) (fun hge => ?_)
      · have hlt' : i < ms.length := by omega
        obtain ⟨p, xs, r, e, cs', fu', R, rfl, ecs'⟩ := calls_more hlt' ecs
        have Fi := fine_of R (hin _ (List.mem_cons_self ..))
        have hw := (step_eq st Fi).1
        rw [List.map_cons, hw] at hmay eeq
        have hmay2 : (!(Km259Neutral.step st (callI p xs r)).2.isEmpty && Km259Neutral.may (Km259Neutral.step st (callI p xs r)).1 (cs'.map PyKm259.whole)) = true := hmay
        rw [Bool.and_eq_true] at hmay2
        have hne : (Km259Neutral.step st (callI p xs r)).2 ≠ [] := by
          intro z
          rw [z] at hmay2
          exact Bool.noConfusion hmay2.1
        have eeq2 : done ++ (((Km259Neutral.step st (callI p xs r)).2.length : Int) :: ((Km259Neutral.step st (callI p xs r)).2 ++ PyFlat.told (PyFlat.played Km259Neutral.step (Km259Neutral.step st (callI p xs r)).1 (cs'.map PyKm259.whole)))) = PyKm259.answers ns := eeq
        have hlen2 : done.length + (1 + (Km259Neutral.step st (callI p xs r)).2.length) ≤ 10000000 := by
          rw [← eeq2, List.length_append, List.length_cons, List.length_append] at hlen
          omega
        have hmore := R.more
        refine ⟨fun σ' H2 => ∃ m', m' < ms.length - i ∧ ∃ (i : Nat) (fu : Nat) (cs : List (List (List Int))) (st : S) (Y : YA) (done : List Int) (v4 v5 v6 v7 : Option V), m' = ms.length - i ∧
          σ' = [some (.ref a), some (.ref Y.y), some (.ref fl), some (.int (i : Int)), v4, v5, v6, v7] ∧ i ≤ ms.length ∧ PyFlat.calls PyKm259.shape fu (Km259Neutral.nums (ms.drop i)) = some cs ∧ (∀ c ∈ cs, PyInside.call PyKm259.bound c = true) ∧ Km259Neutral.may st (cs.map PyKm259.whole) = true ∧
          done ++ PyFlat.told (PyFlat.played Km259Neutral.step st (cs.map PyKm259.whole)) = PyKm259.answers ns ∧ YardAt CY CC CG H2 Y st ∧ (∀ b ∈ Y.fp, H b = none) ∧ fl ∉ Y.fp ∧ H2 fl = some (.lst (done.map V.int)) ∧ Same H H2, fun σ' H2 z => z, ?_⟩
        refine ⟨_, rfl, _, rfl, a, ms, i, p, xs, r, e, rfl, hSa, R, fun H2 t nl rl s3 nnl nrl ht hnl hrl => ?_⟩
        refine ⟨t, _, rfl, SqT.of ht, rfl, _, _, rfl, _, _, rfl, _, _, rfl, _, _, rfl, rfl, ?_⟩
        have D2 : YardAt CY CC CG H2 Y st := D.kept fun b _ u eb => s3 b u eb
        refine ⟨_, rfl, _, rfl, _, rfl, _, rfl, Y, st, p, nl, rl, xs, r, rfl, D2, SqL.of hnl, SqL.of hrl, Fi, hne, by omega, fun H3 Y3 z S3 ap hz => ?_⟩
        have hf2 := s3 _ _ hf
        have hf3 := S3.gr.keep _ _ nf hf2
        have nfz : fl ≠ z := ap fl _ nf hf2
        refine ⟨_, rfl, .inl ⟨rfl, _, SqL.of hf3⟩, _, rfl, z, _, rfl, .inl (SqL.of hz), fl, _, _, rfl, rfl, hf3, (by rw [List.length_map, sizeLine_eq]; omega), ?_⟩
        have hz4 : (upd H3 fl (.lst (done.map V.int ++ [V.int (((Km259Neutral.step st (callI p xs r)).2.map V.int).length : Int)]))) z = some (.lst ((Km259Neutral.step st (callI p xs r)).2.map V.int)) := (upd_ne nfz.symm).trans hz
        refine ⟨_, rfl, .inl ⟨rfl, _, SqL.of upd_same⟩, _, rfl, fl, z, _, _, rfl, rfl, upd_same, hz4, (by rw [List.length_append, List.length_map, List.length_map, sizeLine_eq]; show done.length + 1 + _ ≤ _; omega), ?_⟩
        have nf3 : fl ∉ Y3.fp := fun zz => by
          rcases S3.gr.new fl zz with h | h
          · exact nf h
          · rw [hf2] at h
            cases h
        have sH3 : Same H H3 := fun b o eb => by
          have e2 := s3 b o (sH b o eb)
          refine S3.gr.keep b o (fun zz => ?_) e2
          rw [nwY b zz] at eb
          cases eb
        refine ⟨ms.length - e, by omega, e, fu', cs', (Km259Neutral.step st (callI p xs r)).1, Y3, done ++ (((Km259Neutral.step st (callI p xs r)).2.length : Int) :: (Km259Neutral.step st (callI p xs r)).2), some (.int (p : Int)), some (.ref nl), some (.ref rl), some (.ref z), rfl, ?_, hmore.2, ecs', fun c hc => hin c (List.mem_cons_of_mem _ hc), hmay2.2, ?_, ?_, ?_, nf3, ?_, ?_⟩
        · rw [S3.same]
          rfl
        · rw [← eeq2, List.append_assoc]
          rfl
        · exact S3.ok.kept fun b hb u eb => by
            have nb : b ≠ fl := fun zz => nf3 (zz ▸ hb)
            rw [upd_ne nb, upd_ne nb]
            exact eb
        · intro b hb
          rcases S3.gr.new b hb with h | h
          · exact nwY b h
          · exact (sH.trans s3).free h
        · rw [upd_same, List.map_append, List.length_map, List.append_assoc]
          rfl
        · exact same_new (same_new sH3 nfl) nfl
      · have hz := calls_end (show ms.length ≤ i by omega) ecs
        subst hz
        have eeq2 : done ++ [] = PyKm259.answers ns := eeq
        rw [List.append_nil] at eeq2
        refine ⟨_, rfl, k H' fl ?_⟩
        rw [← eeq2]
        exact hf
end
end Cy

namespace Cy
open PySem PySem.Spec PyProof.Rows L2
/-! ### what the top has written, one fact a thing -/
def DefE (K : PySem.W.Frag) (mg : Str → Option Value) (x : Str) (st : Stmt) : Prop := ∃ (f : Addr) (fd : FuncData), mg x = some (.ref f) ∧ PySem.W.keepIn K (.ref f) = true ∧ Fun K x x st f fd
def MthE (K : PySem.W.Frag) (C : Addr) (x qq : Str) (st : Stmt) : Prop := ∃ (f : Addr) (fd : FuncData), Meth K C x f ∧ Fun K x qq st f fd
def MkE (K : PySem.W.Frag) (C : Addr) (qq : Str) (st : Stmt) : Prop := ∃ (f : Addr) (fd : FuncData), Mk K C f ∧ Fun K "__init__" qq st f fd
section
variable {Gl : Prop} {K : PySem.W.Frag} {h : Heap} {mg : Str → Option Value}
theorem mk_def {x : Str} {st : Stmt} {f : Addr} {od an : Option Addr} {sl : Array (Option Value)} {oc kV dc pm cd ct : Value} (X : K.In h) (G : h.Ns mainGlobals mg) (a : PySem.W.nsIn K mainGlobals x = some (some (.ref f)))
    (l : K.lookup f = some ⟨oc, od, .func (PySem.W.fnOf x x (defArgs st) (defBody st) (defScope st) .none kV dc pm an cd ct), sl⟩) (c : PySem.W.codeIn K cd x = true) (k : PySem.W.keepIn K (.ref f) = true) (go : DefE K mg x st → Gl) : Gl :=
  go ⟨f, _, PySem.W.mg_of X G a, k, fun_mk (st := st) l c k⟩
theorem mk_mth {x qq : Str} {st : Stmt} {C f : Addr} {od an : Option Addr} {sl : Array (Option Value)} {oc kV dc pm cd ct : Value} (X : K.In h) (cl : Cls K C) (a : PySem.W.findIn K (.ref C) x = some (some (.ref f))) (i : PySem.W.isFn K (.ref f) = true)
    (l : K.lookup f = some ⟨oc, od, .func (PySem.W.fnOf x qq (defArgs st) (defBody st) (defScope st) .none kV dc pm an cd ct), sl⟩) (c : PySem.W.codeIn K cd qq = true) (k : PySem.W.keepIn K (.ref f) = true) (go : MthE K C x qq st → Gl) : Gl :=
  go ⟨f, _, ⟨a, i, k⟩, fun_mk (st := st) l c k⟩
theorem mk_mk {qq : Str} {st : Stmt} {C f : Addr} {od an : Option Addr} {sl : Array (Option Value)} {oc kV dc pm cd ct : Value} (X : K.In h) (cl : Cls K C) (a : PySem.W.findIn K (.ref C) "__init__" = some (some (.ref f))) (i : PySem.W.isFn K (.ref f) = true)
    (l : K.lookup f = some ⟨oc, od, .func (PySem.W.fnOf "__init__" qq (defArgs st) (defBody st) (defScope st) .none kV dc pm an cd ct), sl⟩) (c : PySem.W.codeIn K cd qq = true) (k : PySem.W.keepIn K (.ref f) = true)
    (m : PySem.W.makesIn K C = true) (kc : PySem.W.keepIn K (.ref C) = true) (go : MkE K C qq st → Gl) : Gl :=
  go ⟨f, _, ⟨m, a, i, kc⟩, fun_mk (st := st) l c k⟩
theorem mk_cls {x : Str} {C : Addr} (X : K.In h) (G : h.Ns mainGlobals mg) (a : PySem.W.nsIn K mainGlobals x = some (some (.ref C))) (pg : PySem.W.plainGet K C Str.empty = true) (hd : PySem.W.hasDictIn K C = true) (po : PySem.W.plainOver K C = true)
    (sa : PySem.W.findIn K (.ref C) "__setattr__" = some (some (.builtin "object.__setattr__"))) (go : mg x = some (.ref C) → Cls K C → Gl) : Gl := go (PySem.W.mg_of X G a) ⟨pg, hd, po, sa⟩
theorem mk_int {x : Str} {n : Int} {tk : Tok} (X : K.In h) (G : h.Ns mainGlobals mg) (a : PySem.W.nsIn K mainGlobals x = some (some (.int n tk))) (go : IntIs mg x n → Gl) : Gl := go ⟨tk, PySem.W.mg_of X G a⟩
theorem mk_free {x : Str} (X : K.In h) (G : h.Ns mainGlobals mg) (a : PySem.W.nsIn K mainGlobals x = some none) (go : mg x = none → Gl) : Gl := go (PySem.W.mg_none_of X G a)
theorem mk_no {C : Addr} {x : Str} (X : K.In h) (cl : Cls K C) (a : PySem.W.findIn K (.ref C) x = some none) (go : NoAttr K C x → Gl) : Gl := go a
theorem vals_iv : ∀ (ks : List Nat) (us : List Value), (ks.map fun (n : Nat) => (n : Int)) = us.map SrtO.iv → (∀ u ∈ us, ∃ i t, u = Value.int i t) → Vals (iv ks) us
  | [], [], _, _ => .nil
  | k :: ks, u :: us, e, h => by
    rw [List.map_cons, List.map_cons] at e
    obtain ⟨i, t, eu⟩ := h u (List.mem_cons_self ..)
    subst eu
    have e1 : (k : Int) = i := (List.cons.inj e).1
    exact .cons ⟨t, by rw [e1]⟩ (vals_iv ks us (List.cons.inj e).2 fun v hv => h v (List.mem_cons_of_mem _ hv))
  | [], _ :: _, e, _ => by simp at e
  | _ :: _, [], e, _ => by simp at e
theorem mk_tup {x : Str} {ks : List Nat} {a : Addr} {od : Option Addr} {its : Array Value} {n : Nat} {sl : Array (Option Value)} (X : K.In h) (G : h.Ns mainGlobals mg) (e : PySem.W.nsIn K mainGlobals x = some (some (.ref a))) (l : K.lookup a = some ⟨.type "tuple", od, .seq its n, sl⟩)
    (v : Vals (iv ks) its.toList) (z : its.size ≤ sizeLine) (go : Tup K mg x ks → Gl) : Gl := go ⟨a, PySem.W.mg_of X G e, fun _ => .inr ⟨_, its, n, l, rfl, rfl, z, v⟩⟩
end
structure Facts (K : PySem.W.Frag) (mg : Str → Option Value) (CM CC CG CY : Addr) : Prop where
  txt : Txt K mg
  msg : MsgT K mg CM
  cen : CenT K mg CC
  gat : GateT K mg CG
  yar : YarT K mg CY
  toCentre : Tup K mg "TO_CENTRE" [1, 5]
  toGate : Tup K mg "TO_GATE" [2, 4, 6]
  numbers : Tup K mg "NUMBERS" NUMB
  rows : Tup K mg "ROWS" ROWSL
  f_bytes : DefE K mg "bytes_of" sBytes
  f_numin : DefE K mg "number_in" sNumIn
  f_halved : DefE K mg "halved" sHalved
  f_check : DefE K mg "check_of" sCheck
  f_written : DefE K mg "written" sWritten
  f_minit : MkE K CM "Message.__init__" sMInit
  f_nums : MthE K CM "numbers_fit" "Message.numbers_fit" sNums
  f_fits : MthE K CM "fits" "Message.fits" sFits
  f_msgin : DefE K mg "message_in" sMsgIn
  f_ginit : MkE K CG "Gate.__init__" sGInit
  f_sendfirst : MthE K CG "send_first" "Gate.send_first" sSendFirst
  f_sendlocked : MthE K CG "send_locked" "Gate.send_locked" sSendLocked
  f_setlock : MthE K CG "set_lock" "Gate.set_lock" sSetLock
  f_goby : MthE K CG "go_by" "Gate.go_by" sGoBy
  f_takehad : MthE K CG "take_had" "Gate.take_had" sTakeHad
  f_takelock : MthE K CG "take_lock" "Gate.take_lock" sTakeLock
  f_takefree : MthE K CG "take_free" "Gate.take_free" sTakeFree
  f_gheard : MthE K CG "heard" "Gate.heard" sGHeard
  f_gtick : MthE K CG "tick" "Gate.tick" sGTick
  f_gstate : MthE K CG "state" "Gate.state" sGState
  f_cinit : MkE K CC "Centre.__init__" sCInit
  f_send : MthE K CC "send" "Centre.send" sSend
  f_tell : MthE K CC "tell" "Centre.tell" sTell
  f_sendall : MthE K CC "send_all" "Centre.send_all" sSendAll
  f_lock : MthE K CC "lock" "Centre.lock" sLock
  f_free : MthE K CC "free" "Centre.free" sFree
  f_many : MthE K CC "many_within" "Centre.many_within" sMany
  f_isclear : MthE K CC "is_clear" "Centre.is_clear" sIsClear
  f_fire : MthE K CC "fire" "Centre.fire" sFire
  f_count : MthE K CC "count" "Centre.count" sCount
  f_takepass : MthE K CC "take_pass" "Centre.take_pass" sTakePass
  f_takelocked : MthE K CC "take_locked" "Centre.take_locked" sTakeLocked
  f_cheard : MthE K CC "heard" "Centre.heard" sCHeard
  f_ctick : MthE K CC "tick" "Centre.tick" sCTick
  f_cstate : MthE K CC "state" "Centre.state" sCState
  f_yinit : MkE K CY "Yard.__init__" sYInit
  f_startc : MthE K CY "start_centre" "Yard.start_centre" sStartC
  f_startg : MthE K CY "start_gate" "Yard.start_gate" sStartG
  f_things : DefE K mg "things_told" sThings
  f_cdone : DefE K mg "centre_done" sCDone
  f_gdone : DefE K mg "gate_done" sGDone
  f_toldby : DefE K mg "told_by" sToldBy
  f_callat : DefE K mg "call_at" sCallAt
  f_answers : DefE K mg "answers" sAnswers
theorem all_ok {P : Program} {w : World} {K : PySem.W.Frag} {mg : Str → Option Value} {CM CC CG CY fa : Addr} (hfa : mg "answers" = some (.ref fa)) (Fa : Facts K mg CM CC CG CY) :
    ∃ fd : FuncData, (∀ (s : Shared) (us : List Value), us.length = (["calls"] : List Str).length → BindsTo s fd ⟨us, []⟩ ((["calls"] : List Str).zip us)) ∧ ∀ base : Heap, K.In base → base.Ns mainGlobals mg → FnOk P w K mg base CX0 9 fa fd ["calls"] (spAns K) := by
  obtain ⟨fA, fdA, mA, kA, FA⟩ := Fa.f_answers
  have ef := hfa.symm.trans mA
  cases ef
  refine ⟨fdA, ?_, fun base _ _ => ?_⟩
  · obtain ⟨oc, od, kV, doc, pm, an, cdv, ct, osl, rfl, _, _⟩ := FA.ex
    exact fun s us hu => match us, hu with | [_], _ => .of_eq rfl
  have d_bytes : Def P w K mg base "bytes_of" 1 ["number"] spBytes := by
    obtain ⟨f, fd, m, kp, F⟩ := Fa.f_bytes
    exact ⟨f, fd, m, kp, (F.binds (ps := ["number"]) fun _ _ _ _ _ _ us hl => match us, hl with | [_], _ => rfl), ok_bytes F Fa.txt⟩
  have d_numin : Def P w K mg base "number_in" 1 ["row"] (spNumIn K) := by
    obtain ⟨f, fd, m, kp, F⟩ := Fa.f_numin
    exact ⟨f, fd, m, kp, (F.binds (ps := ["row"]) fun _ _ _ _ _ _ us hl => match us, hl with | [_], _ => rfl), ok_numIn F Fa.txt⟩
  have d_halved : Def P w K mg base "halved" 1 ["number"] spHalved := by
    obtain ⟨f, fd, m, kp, F⟩ := Fa.f_halved
    exact ⟨f, fd, m, kp, (F.binds (ps := ["number"]) fun _ _ _ _ _ _ us hl => match us, hl with | [_], _ => rfl), ok_halved F Fa.txt⟩
  have d_check : Def P w K mg base "check_of" 2 ["row"] (spCheck K) := by
    obtain ⟨f, fd, m, kp, F⟩ := Fa.f_check
    exact ⟨f, fd, m, kp, (F.binds (ps := ["row"]) fun _ _ _ _ _ _ us hl => match us, hl with | [_], _ => rfl), ok_check F Fa.txt d_halved⟩
  have d_written : Def P w K mg base "written" 3 ["kind", "gate", "going", "number", "tag"] spWritten := by
    obtain ⟨f, fd, m, kp, F⟩ := Fa.f_written
    exact ⟨f, fd, m, kp, (F.binds (ps := ["kind", "gate", "going", "number", "tag"]) fun _ _ _ _ _ _ us hl => match us, hl with | [_, _, _, _, _], _ => rfl), ok_written F Fa.txt d_bytes d_check⟩
  have d_minit : Mkr P w K mg base CM 2 ["self", "row"] (spMInit K CM) := by
    obtain ⟨f, fd, m, F⟩ := Fa.f_minit
    exact ⟨f, fd, m, (F.binds (ps := ["self", "row"]) fun _ _ _ _ _ _ us hl => match us, hl with | [_, _], _ => rfl), ok_mInit F Fa.txt Fa.msg d_numin⟩
  have d_nums : Mth P w K mg base CM "numbers_fit" 1 ["self"] (spNums CM) := by
    obtain ⟨f, fd, m, F⟩ := Fa.f_nums
    exact ⟨f, fd, m, (F.binds (ps := ["self"]) fun _ _ _ _ _ _ us hl => match us, hl with | [_], _ => rfl), ok_nums F Fa.txt Fa.msg⟩
  have d_fits : Mth P w K mg base CM "fits" 2 ["self", "kinds"] (spFits K CM) := by
    obtain ⟨f, fd, m, F⟩ := Fa.f_fits
    exact ⟨f, fd, m, (F.binds (ps := ["self", "kinds"]) fun _ _ _ _ _ _ us hl => match us, hl with | [_, _], _ => rfl), ok_fits F Fa.txt Fa.msg d_nums⟩
  have d_msgin : Def P w K mg base "message_in" 4 ["row", "kinds"] (spMsgIn K CM) := by
    obtain ⟨f, fd, m, kp, F⟩ := Fa.f_msgin
    exact ⟨f, fd, m, kp, (F.binds (ps := ["row", "kinds"]) fun _ _ _ _ _ _ us hl => match us, hl with | [_, _], _ => rfl), ok_msgIn F Fa.txt Fa.msg d_numin d_check d_minit d_fits⟩
  have d_ginit : Mkr P w K mg base CG 1 ["self", "me"] (spGInit CG) := by
    obtain ⟨f, fd, m, F⟩ := Fa.f_ginit
    exact ⟨f, fd, m, (F.binds (ps := ["self", "me"]) fun _ _ _ _ _ _ us hl => match us, hl with | [_, _], _ => rfl), ok_gInit F Fa.txt Fa.gat⟩
  have d_sendfirst : Mth P w K mg base CG "send_first" 4 ["self"] (spSendFirst CG) := by
    obtain ⟨f, fd, m, F⟩ := Fa.f_sendfirst
    exact ⟨f, fd, m, (F.binds (ps := ["self"]) fun _ _ _ _ _ _ us hl => match us, hl with | [_], _ => rfl), ok_sendFirst F Fa.txt Fa.gat d_written⟩
  have d_sendlocked : Mth P w K mg base CG "send_locked" 4 ["self"] (spSendLocked CG) := by
    obtain ⟨f, fd, m, F⟩ := Fa.f_sendlocked
    exact ⟨f, fd, m, (F.binds (ps := ["self"]) fun _ _ _ _ _ _ us hl => match us, hl with | [_], _ => rfl), ok_sendLocked F Fa.txt Fa.gat d_written⟩
  have d_setlock : Mth P w K mg base CG "set_lock" 1 ["self", "on"] (spSetLock CG) := by
    obtain ⟨f, fd, m, F⟩ := Fa.f_setlock
    exact ⟨f, fd, m, (F.binds (ps := ["self", "on"]) fun _ _ _ _ _ _ us hl => match us, hl with | [_, _], _ => rfl), ok_setLock F Fa.txt Fa.gat⟩
  have d_goby : Mth P w K mg base CG "go_by" 5 ["self", "tag", "going"] (spGoBy CG) := by
    obtain ⟨f, fd, m, F⟩ := Fa.f_goby
    exact ⟨f, fd, m, (F.binds (ps := ["self", "tag", "going"]) fun _ _ _ _ _ _ us hl => match us, hl with | [_, _, _], _ => rfl), ok_goBy F Fa.txt Fa.gat d_sendfirst⟩
  have d_takehad : Mth P w K mg base CG "take_had" 5 ["self", "message"] (spTakeHad CG CM) := by
    obtain ⟨f, fd, m, F⟩ := Fa.f_takehad
    exact ⟨f, fd, m, (F.binds (ps := ["self", "message"]) fun _ _ _ _ _ _ us hl => match us, hl with | [_, _], _ => rfl), ok_takeHad F Fa.txt Fa.gat Fa.msg d_sendfirst⟩
  have d_takelock : Mth P w K mg base CG "take_lock" 5 ["self", "message"] (spTakeLock CG CM) := by
    obtain ⟨f, fd, m, F⟩ := Fa.f_takelock
    exact ⟨f, fd, m, (F.binds (ps := ["self", "message"]) fun _ _ _ _ _ _ us hl => match us, hl with | [_, _], _ => rfl), ok_takeLock F Fa.txt Fa.gat Fa.msg d_sendlocked d_setlock⟩
  have d_takefree : Mth P w K mg base CG "take_free" 2 ["self", "message"] (spTakeFree CG CM) := by
    obtain ⟨f, fd, m, F⟩ := Fa.f_takefree
    exact ⟨f, fd, m, (F.binds (ps := ["self", "message"]) fun _ _ _ _ _ _ us hl => match us, hl with | [_, _], _ => rfl), ok_takeFree F Fa.txt Fa.gat Fa.msg d_setlock⟩
  have d_gheard : Mth P w K mg base CG "heard" 6 ["self", "row"] (spGHeard K CG) := by
    obtain ⟨f, fd, m, F⟩ := Fa.f_gheard
    exact ⟨f, fd, m, (F.binds (ps := ["self", "row"]) fun _ _ _ _ _ _ us hl => match us, hl with | [_, _], _ => rfl), ok_gHeard F Fa.txt Fa.gat Fa.msg Fa.toGate d_msgin d_takehad d_takelock d_takefree⟩
  have d_gtick : Mth P w K mg base CG "tick" 5 ["self"] (spGTick CG) := by
    obtain ⟨f, fd, m, F⟩ := Fa.f_gtick
    exact ⟨f, fd, m, (F.binds (ps := ["self"]) fun _ _ _ _ _ _ us hl => match us, hl with | [_], _ => rfl), ok_gTick F Fa.txt Fa.gat d_sendfirst d_sendlocked⟩
  have d_gstate : Mth P w K mg base CG "state" 1 ["self"] (spGState CG) := by
    obtain ⟨f, fd, m, F⟩ := Fa.f_gstate
    exact ⟨f, fd, m, (F.binds (ps := ["self"]) fun _ _ _ _ _ _ us hl => match us, hl with | [_], _ => rfl), ok_gState F Fa.txt Fa.gat⟩
  have d_cinit : Mkr P w K mg base CC 1 ["self", "gates"] (spCInit CC) := by
    obtain ⟨f, fd, m, F⟩ := Fa.f_cinit
    exact ⟨f, fd, m, (F.binds (ps := ["self", "gates"]) fun _ _ _ _ _ _ us hl => match us, hl with | [_, _], _ => rfl), ok_cInit F Fa.txt Fa.cen⟩
  have d_send : Mth P w K mg base CC "send" 4 ["self", "kind", "gate", "number", "tag"] (spSend CC) := by
    obtain ⟨f, fd, m, F⟩ := Fa.f_send
    exact ⟨f, fd, m, (F.binds (ps := ["self", "kind", "gate", "number", "tag"]) fun _ _ _ _ _ _ us hl => match us, hl with | [_, _, _, _, _], _ => rfl), ok_send F Fa.txt Fa.cen d_written⟩
  have d_tell : Mth P w K mg base CC "tell" 1 ["self", "what"] (spTell CC) := by
    obtain ⟨f, fd, m, F⟩ := Fa.f_tell
    exact ⟨f, fd, m, (F.binds (ps := ["self", "what"]) fun _ _ _ _ _ _ us hl => match us, hl with | [_, _], _ => rfl), ok_tell F Fa.txt Fa.cen⟩
  have d_sendall : Mth P w K mg base CC "send_all" 5 ["self", "kind"] (spSendAll CC) := by
    obtain ⟨f, fd, m, F⟩ := Fa.f_sendall
    exact ⟨f, fd, m, (F.binds (ps := ["self", "kind"]) fun _ _ _ _ _ _ us hl => match us, hl with | [_, _], _ => rfl), ok_sendAll F Fa.txt Fa.cen d_send⟩
  have d_lock : Mth P w K mg base CC "lock" 6 ["self"] (spLock CC) := by
    obtain ⟨f, fd, m, F⟩ := Fa.f_lock
    exact ⟨f, fd, m, (F.binds (ps := ["self"]) fun _ _ _ _ _ _ us hl => match us, hl with | [_], _ => rfl), ok_lock F Fa.txt Fa.cen d_sendall⟩
  have d_free : Mth P w K mg base CC "free" 6 ["self"] (spFree CC) := by
    obtain ⟨f, fd, m, F⟩ := Fa.f_free
    exact ⟨f, fd, m, (F.binds (ps := ["self"]) fun _ _ _ _ _ _ us hl => match us, hl with | [_], _ => rfl), ok_free F Fa.txt Fa.cen d_sendall⟩
  have d_many : Mth P w K mg base CC "many_within" 1 ["self"] (spMany CC) := by
    obtain ⟨f, fd, m, F⟩ := Fa.f_many
    exact ⟨f, fd, m, (F.binds (ps := ["self"]) fun _ _ _ _ _ _ us hl => match us, hl with | [_], _ => rfl), ok_many F Fa.txt Fa.cen⟩
  have d_isclear : Mth P w K mg base CC "is_clear" 2 ["self"] (spIsClear CC) := by
    obtain ⟨f, fd, m, F⟩ := Fa.f_isclear
    exact ⟨f, fd, m, (F.binds (ps := ["self"]) fun _ _ _ _ _ _ us hl => match us, hl with | [_], _ => rfl), ok_isClear F Fa.txt Fa.cen d_many⟩
  have d_fire : Mth P w K mg base CC "fire" 3 ["self"] (spFire CC) := by
    obtain ⟨f, fd, m, F⟩ := Fa.f_fire
    exact ⟨f, fd, m, (F.binds (ps := ["self"]) fun _ _ _ _ _ _ us hl => match us, hl with | [_], _ => rfl), ok_fire F Fa.txt Fa.cen d_isclear d_tell⟩
  have d_count : Mth P w K mg base CC "count" 1 ["self", "message"] (spCount CC CM) := by
    obtain ⟨f, fd, m, F⟩ := Fa.f_count
    exact ⟨f, fd, m, (F.binds (ps := ["self", "message"]) fun _ _ _ _ _ _ us hl => match us, hl with | [_, _], _ => rfl), ok_count F Fa.txt Fa.cen Fa.msg⟩
  have d_takepass : Mth P w K mg base CC "take_pass" 5 ["self", "message"] (spTakePass CC CM) := by
    obtain ⟨f, fd, m, F⟩ := Fa.f_takepass
    exact ⟨f, fd, m, (F.binds (ps := ["self", "message"]) fun _ _ _ _ _ _ us hl => match us, hl with | [_, _], _ => rfl), ok_takePass F Fa.txt Fa.cen Fa.msg d_count d_send⟩
  have d_takelocked : Mth P w K mg base CC "take_locked" 1 ["self", "message"] (spTakeLocked CC CM) := by
    obtain ⟨f, fd, m, F⟩ := Fa.f_takelocked
    exact ⟨f, fd, m, (F.binds (ps := ["self", "message"]) fun _ _ _ _ _ _ us hl => match us, hl with | [_, _], _ => rfl), ok_takeLocked F Fa.txt Fa.cen Fa.msg⟩
  have d_cheard : Mth P w K mg base CC "heard" 6 ["self", "row"] (spCHeard K CC) := by
    obtain ⟨f, fd, m, F⟩ := Fa.f_cheard
    exact ⟨f, fd, m, (F.binds (ps := ["self", "row"]) fun _ _ _ _ _ _ us hl => match us, hl with | [_, _], _ => rfl), ok_cHeard F Fa.txt Fa.cen Fa.msg Fa.toCentre d_msgin d_isclear d_takepass d_takelocked d_tell⟩
  have d_ctick : Mth P w K mg base CC "tick" 6 ["self"] (spCTick CC) := by
    obtain ⟨f, fd, m, F⟩ := Fa.f_ctick
    exact ⟨f, fd, m, (F.binds (ps := ["self"]) fun _ _ _ _ _ _ us hl => match us, hl with | [_], _ => rfl), ok_cTick F Fa.txt Fa.cen d_send d_sendall⟩
  have d_cstate : Mth P w K mg base CC "state" 3 ["self"] (spCState CC) := by
    obtain ⟨f, fd, m, F⟩ := Fa.f_cstate
    exact ⟨f, fd, m, (F.binds (ps := ["self"]) fun _ _ _ _ _ _ us hl => match us, hl with | [_], _ => rfl), ok_cState F Fa.txt Fa.cen d_many d_isclear⟩
  have d_yinit : Mkr P w K mg base CY 1 ["self"] (spYInit CY CC CG) := by
    obtain ⟨f, fd, m, F⟩ := Fa.f_yinit
    exact ⟨f, fd, m, (F.binds (ps := ["self"]) fun _ _ _ _ _ _ us hl => match us, hl with | [_], _ => rfl), ok_yInit F Fa.txt Fa.yar⟩
  have d_startc : Mth P w K mg base CY "start_centre" 3 ["self", "many"] (spStartC CY CC CG) := by
    obtain ⟨f, fd, m, F⟩ := Fa.f_startc
    exact ⟨f, fd, m, (F.binds (ps := ["self", "many"]) fun _ _ _ _ _ _ us hl => match us, hl with | [_, _], _ => rfl), ok_startC F Fa.txt Fa.yar Fa.cen d_cinit⟩
  have d_startg : Mth P w K mg base CY "start_gate" 3 ["self", "number", "me"] (spStartG CY CC CG) := by
    obtain ⟨f, fd, m, F⟩ := Fa.f_startg
    exact ⟨f, fd, m, (F.binds (ps := ["self", "number", "me"]) fun _ _ _ _ _ _ us hl => match us, hl with | [_, _, _], _ => rfl), ok_startG F Fa.txt Fa.yar Fa.gat d_ginit⟩
  have d_things : Def P w K mg base "things_told" 1 ["holder"] (spThings K) := by
    obtain ⟨f, fd, m, kp, F⟩ := Fa.f_things
    exact ⟨f, fd, m, kp, (F.binds (ps := ["holder"]) fun _ _ _ _ _ _ us hl => match us, hl with | [_], _ => rfl), ok_things F Fa.txt⟩
  have d_cdone : Def P w K mg base "centre_done" 7 ["centre", "word", "row"] (spCDone K CC) := by
    obtain ⟨f, fd, m, kp, F⟩ := Fa.f_cdone
    exact ⟨f, fd, m, kp, (F.binds (ps := ["centre", "word", "row"]) fun _ _ _ _ _ _ us hl => match us, hl with | [_, _, _], _ => rfl), ok_cDone F Fa.txt Fa.cen d_lock d_free d_fire d_cheard d_ctick d_cstate⟩
  have d_gdone : Def P w K mg base "gate_done" 7 ["gate", "word", "numbers", "row"] (spGDone K CG) := by
    obtain ⟨f, fd, m, kp, F⟩ := Fa.f_gdone
    exact ⟨f, fd, m, kp, (F.binds (ps := ["gate", "word", "numbers", "row"]) fun _ _ _ _ _ _ us hl => match us, hl with | [_, _, _, _], _ => rfl), ok_gDone F Fa.txt Fa.gat d_goby d_gheard d_gtick d_gstate⟩
  have d_toldby : Def P w K mg base "told_by" 8 ["yard", "word", "numbers", "row"] (spToldBy K CY CC CG) := by
    obtain ⟨f, fd, m, kp, F⟩ := Fa.f_toldby
    exact ⟨f, fd, m, kp, (F.binds (ps := ["yard", "word", "numbers", "row"]) fun _ _ _ _ _ _ us hl => match us, hl with | [_, _, _, _], _ => rfl), ok_toldBy F Fa.txt Fa.yar Fa.cen Fa.gat d_startc d_startg d_cdone d_gdone d_things⟩
  have d_callat : Def P w K mg base "call_at" 1 ["calls", "at"] (spCallAt K) := by
    obtain ⟨f, fd, m, kp, F⟩ := Fa.f_callat
    exact ⟨f, fd, m, kp, (F.binds (ps := ["calls", "at"]) fun _ _ _ _ _ _ us hl => match us, hl with | [_, _], _ => rfl), ok_callAt F Fa.txt Fa.numbers Fa.rows⟩
  exact ok_answers FA Fa.txt Fa.yar d_yinit d_callat d_toldby
end Cy

open PySem PySem.W PyProof.Rows
set_option maxRecDepth 100000 in
set_option maxHeartbeats 0 in
theorem PySem.Challenge.cw_clearyard_s01_answers_holds : PySem.Challenge.rw_clearyard_s01_answers.Holds := by
  w_on; k_headS; (case hw => exact ⟨[.list [.int 0, .int 0, .int 1]], by decide +kernel, by decide +kernel⟩)
  k_fillS
  refine L2.walk_specK (r := PySem.Challenge.rw_clearyard_s01_answers) (k := 9) (CX := L2.CX0) (ps := ["calls"]) (sp := Cy.spAns) (by decide +kernel) rfl rfl ⟨rfl, by decide, by decide⟩ (fun w h Y => PySem.W.kIn_of Y) ?F ?S (fun _ _ _ _ z => z)
  case F =>
    intro w mg fa h Y KX G hmg
    refine' Cy.mk_free (x := "range") KX G ?a1 ?go1
    (case a1 => k_is)
    intro n_range
    refine' Cy.mk_free (x := "len") KX G ?a2 ?go2
    (case a2 => k_is)
    intro n_len
    refine' Cy.mk_free (x := "reversed") KX G ?a3 ?go3
    (case a3 => k_is)
    intro n_reversed
    refine' Cy.mk_free (x := "zip") KX G ?a4 ?go4
    (case a4 => k_is)
    intro n_zip
    refine' Cy.mk_free (x := "sorted") KX G ?a5 ?go5
    (case a5 => k_is)
    intro n_sorted
    refine' Cy.mk_free (x := "int") KX G ?a6 ?go6
    (case a6 => k_is)
    intro n_int
    refine' Cy.mk_int (x := "ONES") (n := 4294967295) KX G ?a7 ?go7
    (case a7 => k_is)
    intro n_ONES
    refine' Cy.mk_int (x := "MIXING") (n := 2197175160) KX G ?a8 ?go8
    (case a8 => k_is)
    intro n_MIXING
    refine' Cy.mk_int (x := "PASS") (n := 1) KX G ?a9 ?go9
    (case a9 => k_is)
    intro n_PASS
    refine' Cy.mk_int (x := "HAD") (n := 2) KX G ?a10 ?go10
    (case a10 => k_is)
    intro n_HAD
    refine' Cy.mk_int (x := "LOCK") (n := 4) KX G ?a11 ?go11
    (case a11 => k_is)
    intro n_LOCK
    refine' Cy.mk_int (x := "LOCKED") (n := 5) KX G ?a12 ?go12
    (case a12 => k_is)
    intro n_LOCKED
    refine' Cy.mk_int (x := "FREE") (n := 6) KX G ?a13 ?go13
    (case a13 => k_is)
    intro n_FREE
    refine' Cy.mk_int (x := "MOST_GATE") (n := 7) KX G ?a14 ?go14
    (case a14 => k_is)
    intro n_MOST_GATE
    refine' Cy.mk_int (x := "SIZE") (n := 16) KX G ?a15 ?go15
    (case a15 => k_is)
    intro n_SIZE
    refine' Cy.mk_int (x := "CHECKED") (n := 12) KX G ?a16 ?go16
    (case a16 => k_is)
    intro n_CHECKED
    refine' Cy.mk_int (x := "NOT_RIGHT_centres") (n := -71) KX G ?a17 ?go17
    (case a17 => k_is)
    intro n_NOT_RIGHT_centres
    refine' Cy.mk_int (x := "NOT_NOW") (n := -11) KX G ?a18 ?go18
    (case a18 => k_is)
    intro n_NOT_NOW
    refine' Cy.mk_int (x := "MOST_TAGS") (n := 256) KX G ?a19 ?go19
    (case a19 => k_is)
    intro n_MOST_TAGS
    refine' Cy.mk_int (x := "EVERY_centres") (n := 10) KX G ?a20 ?go20
    (case a20 => k_is)
    intro n_EVERY_centres
    refine' Cy.mk_int (x := "SENDS_centres") (n := 0) KX G ?a21 ?go21
    (case a21 => k_is)
    intro n_SENDS_centres
    refine' Cy.mk_int (x := "TELLS") (n := 1) KX G ?a22 ?go22
    (case a22 => k_is)
    intro n_TELLS
    refine' Cy.mk_int (x := "CLEAR") (n := 1) KX G ?a23 ?go23
    (case a23 => k_is)
    intro n_CLEAR
    refine' Cy.mk_int (x := "FIRE") (n := 2) KX G ?a24 ?go24
    (case a24 => k_is)
    intro n_FIRE
    refine' Cy.mk_int (x := "NOT_RIGHT_gates") (n := -71) KX G ?a25 ?go25
    (case a25 => k_is)
    intro n_NOT_RIGHT_gates
    refine' Cy.mk_int (x := "OUT_OF_RANGE_gates") (n := -22) KX G ?a26 ?go26
    (case a26 => k_is)
    intro n_OUT_OF_RANGE_gates
    refine' Cy.mk_int (x := "LOCKED_IN") (n := -13) KX G ?a27 ?go27
    (case a27 => k_is)
    intro n_LOCKED_IN
    refine' Cy.mk_int (x := "FULL") (n := -28) KX G ?a28 ?go28
    (case a28 => k_is)
    intro n_FULL
    refine' Cy.mk_int (x := "MOST_KEPT") (n := 64) KX G ?a29 ?go29
    (case a29 => k_is)
    intro n_MOST_KEPT
    refine' Cy.mk_int (x := "EVERY_gates") (n := 10) KX G ?a30 ?go30
    (case a30 => k_is)
    intro n_EVERY_gates
    refine' Cy.mk_int (x := "SENDS_gates") (n := 2) KX G ?a31 ?go31
    (case a31 => k_is)
    intro n_SENDS_gates
    refine' Cy.mk_int (x := "LOCKS") (n := 3) KX G ?a32 ?go32
    (case a32 => k_is)
    intro n_LOCKS
    refine' Cy.mk_int (x := "OUT_OF_RANGE_desk") (n := -22) KX G ?a33 ?go33
    (case a33 => k_is)
    intro n_OUT_OF_RANGE_desk
    refine' Cy.mk_int (x := "MOST_GATES") (n := 8) KX G ?a34 ?go34
    (case a34 => k_is)
    intro n_MOST_GATES
    refine' Cy.mk_int (x := "LAST_GATE") (n := 7) KX G ?a35 ?go35
    (case a35 => k_is)
    intro n_LAST_GATE
    refine' Cy.mk_int (x := "GATE_OBJECTS") (n := 4) KX G ?a36 ?go36
    (case a36 => k_is)
    intro n_GATE_OBJECTS
    refine' Cy.mk_int (x := "FIRST_OF_GATE") (n := 7) KX G ?a37 ?go37
    (case a37 => k_is)
    intro n_FIRST_OF_GATE
    refine' Cy.mk_cls (x := "Message") KX G ?a38 ?pg38 ?hd38 ?po38 ?sa38 ?go38
    (case a38 => k_is)
    (case pg38 => k_is)
    (case hd38 => k_is)
    (case po38 => k_is)
    (case sa38 => k_is)
    intro g_CM c_CM
    refine' Cy.mk_no (x := "kind") KX c_CM ?a39 ?go39
    (case a39 => k_is)
    intro n_CM_kind
    refine' Cy.mk_no (x := "gate") KX c_CM ?a40 ?go40
    (case a40 => k_is)
    intro n_CM_gate
    refine' Cy.mk_no (x := "going") KX c_CM ?a41 ?go41
    (case a41 => k_is)
    intro n_CM_going
    refine' Cy.mk_no (x := "nought") KX c_CM ?a42 ?go42
    (case a42 => k_is)
    intro n_CM_nought
    refine' Cy.mk_no (x := "number") KX c_CM ?a43 ?go43
    (case a43 => k_is)
    intro n_CM_number
    refine' Cy.mk_no (x := "tag") KX c_CM ?a44 ?go44
    (case a44 => k_is)
    intro n_CM_tag
    refine' Cy.mk_cls (x := "Centre") KX G ?a45 ?pg45 ?hd45 ?po45 ?sa45 ?go45
    (case a45 => k_is)
    (case pg45 => k_is)
    (case hd45 => k_is)
    (case po45 => k_is)
    (case sa45 => k_is)
    intro g_CC c_CC
    refine' Cy.mk_no (x := "gates") KX c_CC ?a46 ?go46
    (case a46 => k_is)
    intro n_CC_gates
    refine' Cy.mk_no (x := "had") KX c_CC ?a47 ?go47
    (case a47 => k_is)
    intro n_CC_had
    refine' Cy.mk_no (x := "balances") KX c_CC ?a48 ?go48
    (case a48 => k_is)
    intro n_CC_balances
    refine' Cy.mk_no (x := "number") KX c_CC ?a49 ?go49
    (case a49 => k_is)
    intro n_CC_number
    refine' Cy.mk_no (x := "is_on") KX c_CC ?a50 ?go50
    (case a50 => k_is)
    intro n_CC_is_on
    refine' Cy.mk_no (x := "confirmed") KX c_CC ?a51 ?go51
    (case a51 => k_is)
    intro n_CC_confirmed
    refine' Cy.mk_no (x := "ticks") KX c_CC ?a52 ?go52
    (case a52 => k_is)
    intro n_CC_ticks
    refine' Cy.mk_no (x := "things") KX c_CC ?a53 ?go53
    (case a53 => k_is)
    intro n_CC_things
    refine' Cy.mk_cls (x := "Gate") KX G ?a54 ?pg54 ?hd54 ?po54 ?sa54 ?go54
    (case a54 => k_is)
    (case pg54 => k_is)
    (case hd54 => k_is)
    (case po54 => k_is)
    (case sa54 => k_is)
    intro g_CG c_CG
    refine' Cy.mk_no (x := "me") KX c_CG ?a55 ?go55
    (case a55 => k_is)
    intro n_CG_me
    refine' Cy.mk_no (x := "last") KX c_CG ?a56 ?go56
    (case a56 => k_is)
    intro n_CG_last
    refine' Cy.mk_no (x := "kept") KX c_CG ?a57 ?go57
    (case a57 => k_is)
    intro n_CG_kept
    refine' Cy.mk_no (x := "number") KX c_CG ?a58 ?go58
    (case a58 => k_is)
    intro n_CG_number
    refine' Cy.mk_no (x := "is_locked") KX c_CG ?a59 ?go59
    (case a59 => k_is)
    intro n_CG_is_locked
    refine' Cy.mk_no (x := "ticks") KX c_CG ?a60 ?go60
    (case a60 => k_is)
    intro n_CG_ticks
    refine' Cy.mk_no (x := "things") KX c_CG ?a61 ?go61
    (case a61 => k_is)
    intro n_CG_things
    refine' Cy.mk_cls (x := "Yard") KX G ?a62 ?pg62 ?hd62 ?po62 ?sa62 ?go62
    (case a62 => k_is)
    (case pg62 => k_is)
    (case hd62 => k_is)
    (case po62 => k_is)
    (case sa62 => k_is)
    intro g_CY c_CY
    refine' Cy.mk_no (x := "centre") KX c_CY ?a63 ?go63
    (case a63 => k_is)
    intro n_CY_centre
    refine' Cy.mk_no (x := "gates") KX c_CY ?a64 ?go64
    (case a64 => k_is)
    intro n_CY_gates
    refine' Cy.mk_tup (x := "TO_CENTRE") (ks := [1, 5]) KX G ?e65 ?l65 ?v65 ?z65 ?go65
    (case e65 => k_is)
    (case l65 => k_is)
    (case v65 => exact Cy.vals_iv _ _ rfl (by simp))
    (case z65 => decide)
    intro t_toCentre
    refine' Cy.mk_tup (x := "TO_GATE") (ks := [2, 4, 6]) KX G ?e66 ?l66 ?v66 ?z66 ?go66
    (case e66 => k_is)
    (case l66 => k_is)
    (case v66 => exact Cy.vals_iv _ _ rfl (by simp))
    (case z66 => decide)
    intro t_toGate
    refine' Cy.mk_tup (x := "NUMBERS") (ks := Cy.NUMB) KX G ?e67 ?l67 ?v67 ?z67 ?go67
    (case e67 => k_is)
    (case l67 => k_is)
    (case v67 => exact Cy.vals_iv _ _ rfl (by simp))
    (case z67 => decide)
    intro t_numbers
    refine' Cy.mk_tup (x := "ROWS") (ks := Cy.ROWSL) KX G ?e68 ?l68 ?v68 ?z68 ?go68
    (case e68 => k_is)
    (case l68 => k_is)
    (case v68 => exact Cy.vals_iv _ _ rfl (by simp))
    (case z68 => decide)
    intro t_rows
    refine' Cy.mk_def (x := "bytes_of") (st := Cy.sBytes) KX G ?a69 ?l69 ?c69 ?k69 ?go69
    (case a69 => k_is)
    (case l69 => k_is)
    (case c69 => k_is)
    (case k69 => k_is)
    intro f_bytes
    refine' Cy.mk_def (x := "number_in") (st := Cy.sNumIn) KX G ?a70 ?l70 ?c70 ?k70 ?go70
    (case a70 => k_is)
    (case l70 => k_is)
    (case c70 => k_is)
    (case k70 => k_is)
    intro f_numin
    refine' Cy.mk_def (x := "halved") (st := Cy.sHalved) KX G ?a71 ?l71 ?c71 ?k71 ?go71
    (case a71 => k_is)
    (case l71 => k_is)
    (case c71 => k_is)
    (case k71 => k_is)
    intro f_halved
    refine' Cy.mk_def (x := "check_of") (st := Cy.sCheck) KX G ?a72 ?l72 ?c72 ?k72 ?go72
    (case a72 => k_is)
    (case l72 => k_is)
    (case c72 => k_is)
    (case k72 => k_is)
    intro f_check
    refine' Cy.mk_def (x := "written") (st := Cy.sWritten) KX G ?a73 ?l73 ?c73 ?k73 ?go73
    (case a73 => k_is)
    (case l73 => k_is)
    (case c73 => k_is)
    (case k73 => k_is)
    intro f_written
    refine' Cy.mk_mk (qq := "Message.__init__") (st := Cy.sMInit) KX c_CM ?a74 ?i74 ?l74 ?c74 ?k74 ?m74 ?kc74 ?go74
    (case a74 => k_is)
    (case i74 => k_is)
    (case l74 => k_is)
    (case c74 => k_is)
    (case k74 => k_is)
    (case m74 => k_is)
    (case kc74 => k_is)
    intro f_minit
    refine' Cy.mk_mth (x := "numbers_fit") (qq := "Message.numbers_fit") (st := Cy.sNums) KX c_CM ?a75 ?i75 ?l75 ?c75 ?k75 ?go75
    (case a75 => k_is)
    (case i75 => k_is)
    (case l75 => k_is)
    (case c75 => k_is)
    (case k75 => k_is)
    intro f_nums
    refine' Cy.mk_mth (x := "fits") (qq := "Message.fits") (st := Cy.sFits) KX c_CM ?a76 ?i76 ?l76 ?c76 ?k76 ?go76
    (case a76 => k_is)
    (case i76 => k_is)
    (case l76 => k_is)
    (case c76 => k_is)
    (case k76 => k_is)
    intro f_fits
    refine' Cy.mk_def (x := "message_in") (st := Cy.sMsgIn) KX G ?a77 ?l77 ?c77 ?k77 ?go77
    (case a77 => k_is)
    (case l77 => k_is)
    (case c77 => k_is)
    (case k77 => k_is)
    intro f_msgin
    refine' Cy.mk_mk (qq := "Gate.__init__") (st := Cy.sGInit) KX c_CG ?a78 ?i78 ?l78 ?c78 ?k78 ?m78 ?kc78 ?go78
    (case a78 => k_is)
    (case i78 => k_is)
    (case l78 => k_is)
    (case c78 => k_is)
    (case k78 => k_is)
    (case m78 => k_is)
    (case kc78 => k_is)
    intro f_ginit
    refine' Cy.mk_mth (x := "send_first") (qq := "Gate.send_first") (st := Cy.sSendFirst) KX c_CG ?a79 ?i79 ?l79 ?c79 ?k79 ?go79
    (case a79 => k_is)
    (case i79 => k_is)
    (case l79 => k_is)
    (case c79 => k_is)
    (case k79 => k_is)
    intro f_sendfirst
    refine' Cy.mk_mth (x := "send_locked") (qq := "Gate.send_locked") (st := Cy.sSendLocked) KX c_CG ?a80 ?i80 ?l80 ?c80 ?k80 ?go80
    (case a80 => k_is)
    (case i80 => k_is)
    (case l80 => k_is)
    (case c80 => k_is)
    (case k80 => k_is)
    intro f_sendlocked
    refine' Cy.mk_mth (x := "set_lock") (qq := "Gate.set_lock") (st := Cy.sSetLock) KX c_CG ?a81 ?i81 ?l81 ?c81 ?k81 ?go81
    (case a81 => k_is)
    (case i81 => k_is)
    (case l81 => k_is)
    (case c81 => k_is)
    (case k81 => k_is)
    intro f_setlock
    refine' Cy.mk_mth (x := "go_by") (qq := "Gate.go_by") (st := Cy.sGoBy) KX c_CG ?a82 ?i82 ?l82 ?c82 ?k82 ?go82
    (case a82 => k_is)
    (case i82 => k_is)
    (case l82 => k_is)
    (case c82 => k_is)
    (case k82 => k_is)
    intro f_goby
    refine' Cy.mk_mth (x := "take_had") (qq := "Gate.take_had") (st := Cy.sTakeHad) KX c_CG ?a83 ?i83 ?l83 ?c83 ?k83 ?go83
    (case a83 => k_is)
    (case i83 => k_is)
    (case l83 => k_is)
    (case c83 => k_is)
    (case k83 => k_is)
    intro f_takehad
    refine' Cy.mk_mth (x := "take_lock") (qq := "Gate.take_lock") (st := Cy.sTakeLock) KX c_CG ?a84 ?i84 ?l84 ?c84 ?k84 ?go84
    (case a84 => k_is)
    (case i84 => k_is)
    (case l84 => k_is)
    (case c84 => k_is)
    (case k84 => k_is)
    intro f_takelock
    refine' Cy.mk_mth (x := "take_free") (qq := "Gate.take_free") (st := Cy.sTakeFree) KX c_CG ?a85 ?i85 ?l85 ?c85 ?k85 ?go85
    (case a85 => k_is)
    (case i85 => k_is)
    (case l85 => k_is)
    (case c85 => k_is)
    (case k85 => k_is)
    intro f_takefree
    refine' Cy.mk_mth (x := "heard") (qq := "Gate.heard") (st := Cy.sGHeard) KX c_CG ?a86 ?i86 ?l86 ?c86 ?k86 ?go86
    (case a86 => k_is)
    (case i86 => k_is)
    (case l86 => k_is)
    (case c86 => k_is)
    (case k86 => k_is)
    intro f_gheard
    refine' Cy.mk_mth (x := "tick") (qq := "Gate.tick") (st := Cy.sGTick) KX c_CG ?a87 ?i87 ?l87 ?c87 ?k87 ?go87
    (case a87 => k_is)
    (case i87 => k_is)
    (case l87 => k_is)
    (case c87 => k_is)
    (case k87 => k_is)
    intro f_gtick
    refine' Cy.mk_mth (x := "state") (qq := "Gate.state") (st := Cy.sGState) KX c_CG ?a88 ?i88 ?l88 ?c88 ?k88 ?go88
    (case a88 => k_is)
    (case i88 => k_is)
    (case l88 => k_is)
    (case c88 => k_is)
    (case k88 => k_is)
    intro f_gstate
    refine' Cy.mk_mk (qq := "Centre.__init__") (st := Cy.sCInit) KX c_CC ?a89 ?i89 ?l89 ?c89 ?k89 ?m89 ?kc89 ?go89
    (case a89 => k_is)
    (case i89 => k_is)
    (case l89 => k_is)
    (case c89 => k_is)
    (case k89 => k_is)
    (case m89 => k_is)
    (case kc89 => k_is)
    intro f_cinit
    refine' Cy.mk_mth (x := "send") (qq := "Centre.send") (st := Cy.sSend) KX c_CC ?a90 ?i90 ?l90 ?c90 ?k90 ?go90
    (case a90 => k_is)
    (case i90 => k_is)
    (case l90 => k_is)
    (case c90 => k_is)
    (case k90 => k_is)
    intro f_send
    refine' Cy.mk_mth (x := "tell") (qq := "Centre.tell") (st := Cy.sTell) KX c_CC ?a91 ?i91 ?l91 ?c91 ?k91 ?go91
    (case a91 => k_is)
    (case i91 => k_is)
    (case l91 => k_is)
    (case c91 => k_is)
    (case k91 => k_is)
    intro f_tell
    refine' Cy.mk_mth (x := "send_all") (qq := "Centre.send_all") (st := Cy.sSendAll) KX c_CC ?a92 ?i92 ?l92 ?c92 ?k92 ?go92
    (case a92 => k_is)
    (case i92 => k_is)
    (case l92 => k_is)
    (case c92 => k_is)
    (case k92 => k_is)
    intro f_sendall
    refine' Cy.mk_mth (x := "lock") (qq := "Centre.lock") (st := Cy.sLock) KX c_CC ?a93 ?i93 ?l93 ?c93 ?k93 ?go93
    (case a93 => k_is)
    (case i93 => k_is)
    (case l93 => k_is)
    (case c93 => k_is)
    (case k93 => k_is)
    intro f_lock
    refine' Cy.mk_mth (x := "free") (qq := "Centre.free") (st := Cy.sFree) KX c_CC ?a94 ?i94 ?l94 ?c94 ?k94 ?go94
    (case a94 => k_is)
    (case i94 => k_is)
    (case l94 => k_is)
    (case c94 => k_is)
    (case k94 => k_is)
    intro f_free
    refine' Cy.mk_mth (x := "many_within") (qq := "Centre.many_within") (st := Cy.sMany) KX c_CC ?a95 ?i95 ?l95 ?c95 ?k95 ?go95
    (case a95 => k_is)
    (case i95 => k_is)
    (case l95 => k_is)
    (case c95 => k_is)
    (case k95 => k_is)
    intro f_many
    refine' Cy.mk_mth (x := "is_clear") (qq := "Centre.is_clear") (st := Cy.sIsClear) KX c_CC ?a96 ?i96 ?l96 ?c96 ?k96 ?go96
    (case a96 => k_is)
    (case i96 => k_is)
    (case l96 => k_is)
    (case c96 => k_is)
    (case k96 => k_is)
    intro f_isclear
    refine' Cy.mk_mth (x := "fire") (qq := "Centre.fire") (st := Cy.sFire) KX c_CC ?a97 ?i97 ?l97 ?c97 ?k97 ?go97
    (case a97 => k_is)
    (case i97 => k_is)
    (case l97 => k_is)
    (case c97 => k_is)
    (case k97 => k_is)
    intro f_fire
    refine' Cy.mk_mth (x := "count") (qq := "Centre.count") (st := Cy.sCount) KX c_CC ?a98 ?i98 ?l98 ?c98 ?k98 ?go98
    (case a98 => k_is)
    (case i98 => k_is)
    (case l98 => k_is)
    (case c98 => k_is)
    (case k98 => k_is)
    intro f_count
    refine' Cy.mk_mth (x := "take_pass") (qq := "Centre.take_pass") (st := Cy.sTakePass) KX c_CC ?a99 ?i99 ?l99 ?c99 ?k99 ?go99
    (case a99 => k_is)
    (case i99 => k_is)
    (case l99 => k_is)
    (case c99 => k_is)
    (case k99 => k_is)
    intro f_takepass
    refine' Cy.mk_mth (x := "take_locked") (qq := "Centre.take_locked") (st := Cy.sTakeLocked) KX c_CC ?a100 ?i100 ?l100 ?c100 ?k100 ?go100
    (case a100 => k_is)
    (case i100 => k_is)
    (case l100 => k_is)
    (case c100 => k_is)
    (case k100 => k_is)
    intro f_takelocked
    refine' Cy.mk_mth (x := "heard") (qq := "Centre.heard") (st := Cy.sCHeard) KX c_CC ?a101 ?i101 ?l101 ?c101 ?k101 ?go101
    (case a101 => k_is)
    (case i101 => k_is)
    (case l101 => k_is)
    (case c101 => k_is)
    (case k101 => k_is)
    intro f_cheard
    refine' Cy.mk_mth (x := "tick") (qq := "Centre.tick") (st := Cy.sCTick) KX c_CC ?a102 ?i102 ?l102 ?c102 ?k102 ?go102
    (case a102 => k_is)
    (case i102 => k_is)
    (case l102 => k_is)
    (case c102 => k_is)
    (case k102 => k_is)
    intro f_ctick
    refine' Cy.mk_mth (x := "state") (qq := "Centre.state") (st := Cy.sCState) KX c_CC ?a103 ?i103 ?l103 ?c103 ?k103 ?go103
    (case a103 => k_is)
    (case i103 => k_is)
    (case l103 => k_is)
    (case c103 => k_is)
    (case k103 => k_is)
    intro f_cstate
    refine' Cy.mk_mk (qq := "Yard.__init__") (st := Cy.sYInit) KX c_CY ?a104 ?i104 ?l104 ?c104 ?k104 ?m104 ?kc104 ?go104
    (case a104 => k_is)
    (case i104 => k_is)
    (case l104 => k_is)
    (case c104 => k_is)
    (case k104 => k_is)
    (case m104 => k_is)
    (case kc104 => k_is)
    intro f_yinit
    refine' Cy.mk_mth (x := "start_centre") (qq := "Yard.start_centre") (st := Cy.sStartC) KX c_CY ?a105 ?i105 ?l105 ?c105 ?k105 ?go105
    (case a105 => k_is)
    (case i105 => k_is)
    (case l105 => k_is)
    (case c105 => k_is)
    (case k105 => k_is)
    intro f_startc
    refine' Cy.mk_mth (x := "start_gate") (qq := "Yard.start_gate") (st := Cy.sStartG) KX c_CY ?a106 ?i106 ?l106 ?c106 ?k106 ?go106
    (case a106 => k_is)
    (case i106 => k_is)
    (case l106 => k_is)
    (case c106 => k_is)
    (case k106 => k_is)
    intro f_startg
    refine' Cy.mk_def (x := "things_told") (st := Cy.sThings) KX G ?a107 ?l107 ?c107 ?k107 ?go107
    (case a107 => k_is)
    (case l107 => k_is)
    (case c107 => k_is)
    (case k107 => k_is)
    intro f_things
    refine' Cy.mk_def (x := "centre_done") (st := Cy.sCDone) KX G ?a108 ?l108 ?c108 ?k108 ?go108
    (case a108 => k_is)
    (case l108 => k_is)
    (case c108 => k_is)
    (case k108 => k_is)
    intro f_cdone
    refine' Cy.mk_def (x := "gate_done") (st := Cy.sGDone) KX G ?a109 ?l109 ?c109 ?k109 ?go109
    (case a109 => k_is)
    (case l109 => k_is)
    (case c109 => k_is)
    (case k109 => k_is)
    intro f_gdone
    refine' Cy.mk_def (x := "told_by") (st := Cy.sToldBy) KX G ?a110 ?l110 ?c110 ?k110 ?go110
    (case a110 => k_is)
    (case l110 => k_is)
    (case c110 => k_is)
    (case k110 => k_is)
    intro f_toldby
    refine' Cy.mk_def (x := "call_at") (st := Cy.sCallAt) KX G ?a111 ?l111 ?c111 ?k111 ?go111
    (case a111 => k_is)
    (case l111 => k_is)
    (case c111 => k_is)
    (case k111 => k_is)
    intro f_callat
    refine' Cy.mk_def (x := "answers") (st := Cy.sAnswers) KX G ?a112 ?l112 ?c112 ?k112 ?go112
    (case a112 => k_is)
    (case l112 => k_is)
    (case c112 => k_is)
    (case k112 => k_is)
    intro f_answers
    exact Cy.all_ok hmg ⟨⟨n_range, n_len, n_reversed, n_zip, n_sorted, n_int, n_ONES, n_MIXING, n_PASS, n_HAD, n_LOCK, n_LOCKED, n_FREE, n_MOST_GATE, n_SIZE, n_CHECKED, n_NOT_RIGHT_centres, n_NOT_NOW, n_MOST_TAGS, n_EVERY_centres, n_SENDS_centres, n_TELLS, n_CLEAR, n_FIRE, n_NOT_RIGHT_gates, n_OUT_OF_RANGE_gates, n_LOCKED_IN, n_FULL, n_MOST_KEPT, n_EVERY_gates, n_SENDS_gates, n_LOCKS, n_OUT_OF_RANGE_desk, n_MOST_GATES, n_LAST_GATE, n_GATE_OBJECTS, n_FIRST_OF_GATE⟩, ⟨c_CM, g_CM, n_CM_kind, n_CM_gate, n_CM_going, n_CM_nought, n_CM_number, n_CM_tag⟩, ⟨c_CC, g_CC, n_CC_gates, n_CC_had, n_CC_balances, n_CC_number, n_CC_is_on, n_CC_confirmed, n_CC_ticks, n_CC_things⟩, ⟨c_CG, g_CG, n_CG_me, n_CG_last, n_CG_kept, n_CG_number, n_CG_is_locked, n_CG_ticks, n_CG_things⟩, ⟨c_CY, g_CY, n_CY_centre, n_CY_gates⟩, t_toCentre, t_toGate, t_numbers, t_rows, f_bytes, f_numin, f_halved, f_check, f_written, f_minit, f_nums, f_fits, f_msgin, f_ginit, f_sendfirst, f_sendlocked, f_setlock, f_goby, f_takehad, f_takelock, f_takefree, f_gheard, f_gtick, f_gstate, f_cinit, f_send, f_tell, f_sendall, f_lock, f_free, f_many, f_isclear, f_fire, f_count, f_takepass, f_takelocked, f_cheard, f_ctick, f_cstate, f_yinit, f_startc, f_startg, f_things, f_cdone, f_gdone, f_toldby, f_callat, f_answers⟩
  case S =>
    intro K H xs a hO hwi hask hx
    cases hx with
    | cons h1 h2 =>
      cases h2
      cases h1 with
      | lst hs ha =>
        have e := L2.ints_dw a.1 _ ha
        subst e
        have q : ((Codec.inLen 0 30000 a.1 && a.1.all (Codec.inInt 0 4294967295)) && true) = true := hwi
        rw [Bool.and_eq_true, Bool.and_eq_true] at q
        exact ⟨_, a.1, rfl, hs, fun z hz => (Codec.inInt_iff.mp (List.all_eq_true.mp q.1.2 z hz)).1, hask, fun H' p hp => .lst (L2.SqL.of hp) (L2.dw_ints _)⟩
#print axioms PySem.Challenge.cw_clearyard_s01_answers_holds
