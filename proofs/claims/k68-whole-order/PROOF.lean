import PyProof.Rows.All
import Wide.All
import OpenK.AllK
import Wide.FinOn
import PyProof.EqAt
import PyProof.EqKinds
import PyProof.TupleCall
import KE.GoesMore
import KE.GoesZip
import KE.KDictZip
import KE.KRevSl
import HandS.ForMost
import HandS.Wide
import HandS.IsInst
import HandS.Style
import HandS.Walk
import PySem.Challenge.RW_ownlog_k68_whole_order_is_kept
set_option Elab.async false
set_option linter.all false
set_option maxRecDepth 100000
set_option maxHeartbeats 4000000
namespace K68
/-! ### the plain law -/
/-- the place of the row before a call of c that the place p shows; L the last place before -/
def shN (L c p : Nat) : Nat := if p < c then p else if p ≤ c + L then p - c else p - L
def orig : Nat → List Nat → Nat → Nat
  | _, [], p => p
  | L, c :: cs, p => shN L c (orig (2 * L) cs p)
def okS : Nat → List Nat → Prop
  | _, [] => True
  | L, c :: cs => c ≤ L ∧ okS (2 * L) cs
def lastN : Nat → List Nat → Nat
  | L, [] => L
  | L, _ :: cs => lastN (2 * L) cs
def lastsL : Nat → List Nat → List Nat
  | L, [] => [L]
  | L, _ :: cs => L :: lastsL (2 * L) cs
def firstD : Nat → List Nat → Nat
  | f, [] => f
  | f, c :: cs => firstD (if f < c then f else f + c) cs
def lastD : Nat → Nat → List Nat → Nat
  | f, _, [] => f
  | f, L, c :: cs => lastD (if f ≤ c then f + c else f + L) (2 * L) cs

theorem lastN_snoc (c : Nat) : ∀ (cs : List Nat) (L : Nat), lastN L (cs ++ [c]) = 2 * lastN L cs
  | [], L => rfl
  | _ :: cs, L => lastN_snoc c cs (2 * L)
theorem lastN_len : ∀ (cs ds : List Nat) (L : Nat), cs.length = ds.length → lastN L cs = lastN L ds
  | [], [], _, _ => rfl
  | [], _ :: _, _, h => by simp at h
  | _ :: _, [], _, h => by simp at h
  | _ :: cs, _ :: ds, L, h => lastN_len cs ds (2 * L) (by simpa using h)
theorem lastN_ge : ∀ (cs : List Nat) (L : Nat), L ≤ lastN L cs
  | [], L => Nat.le_refl _
  | _ :: cs, L => Nat.le_trans (by omega) (lastN_ge cs (2 * L))
theorem lastN_le : ∀ (cs : List Nat) (L : Nat), lastN L cs ≤ L * 2 ^ cs.length
  | [], L => by simp [lastN]
  | _ :: cs, L => by
    have h := lastN_le cs (2 * L)
    show lastN (2 * L) cs ≤ L * 2 ^ (cs.length + 1)
    rw [Nat.pow_succ]
    have e : 2 * L * 2 ^ cs.length = L * (2 ^ cs.length * 2) := by
      rw [Nat.mul_comm 2 L, Nat.mul_assoc, Nat.mul_comm 2]
    omega
theorem okS_snoc (c : Nat) : ∀ (cs : List Nat) (L : Nat), okS L cs → c ≤ lastN L cs → okS L (cs ++ [c])
  | [], L, _, h => ⟨h, trivial⟩
  | _ :: cs, L, h, h2 => ⟨h.1, okS_snoc c cs (2 * L) h.2 h2⟩
theorem okS_take : ∀ (cs : List Nat) (L k : Nat), okS L cs → okS L (cs.take k)
  | [], _, _, _ => by simp [okS]
  | _ :: _, _, 0, _ => trivial
  | _ :: cs, L, k + 1, h => ⟨h.1, okS_take cs (2 * L) k h.2⟩
theorem okS_at : ∀ (cs : List Nat) (L k c : Nat), okS L cs → cs[k]? = some c → c ≤ lastN L (cs.take k)
  | [], _, _, _, _, h => by simp at h
  | d :: _, _, 0, c, h, e => by
    have e' : d = c := by simpa using e
    subst e'
    exact h.1
  | _ :: cs, L, k + 1, c, h, e => okS_at cs (2 * L) k c h.2 (by simpa using e)
theorem lastsL_len : ∀ (cs : List Nat) (L : Nat), (lastsL L cs).length = cs.length + 1
  | [], _ => rfl
  | _ :: cs, L => by
    show (lastsL (2 * L) cs).length + 1 = cs.length + 1 + 1
    rw [lastsL_len cs]
theorem lastsL_at : ∀ (cs : List Nat) (L k : Nat), k ≤ cs.length → (lastsL L cs)[k]? = some (lastN L (cs.take k))
  | [], _, 0, _ => rfl
  | [], _, k + 1, h => by simp at h
  | _ :: _, _, 0, _ => rfl
  | _ :: cs, L, k + 1, h => lastsL_at cs (2 * L) k (by simpa using h)
theorem lastsL_snoc (c : Nat) : ∀ (cs : List Nat) (L : Nat), lastsL L (cs ++ [c]) = lastsL L cs ++ [2 * lastN L cs]
  | [], L => rfl
  | d :: cs, L => congrArg (L :: ·) (lastsL_snoc c cs (2 * L))
theorem lastsL_last : ∀ (cs : List Nat) (L : Nat), ∃ ys, lastsL L cs = ys ++ [lastN L cs]
  | [], L => ⟨[], rfl⟩
  | _ :: cs, L => by
    obtain ⟨ys, e⟩ := lastsL_last cs (2 * L)
    exact ⟨L :: ys, congrArg (L :: ·) e⟩
theorem take_snoc {cs : List Nat} {k c : Nat} (h : cs[k]? = some c) : cs.take (k + 1) = cs.take k ++ [c] := by
  rw [List.take_add_one, h]
  rfl
theorem drop_cons {cs : List Nat} {k c : Nat} (h : cs[k]? = some c) : cs.drop k = c :: cs.drop (k + 1) := by
  obtain ⟨h1, e⟩ := List.getElem?_eq_some_iff.mp h
  rw [List.drop_eq_getElem_cons h1, e]
/-- a turn of the way back -/
theorem orig_back {cs : List Nat} {L k c p : Nat} (h : cs[k]? = some c) :
    orig (lastN L (cs.take k)) (cs.drop k) p = shN (lastN L (cs.take k)) c (orig (lastN L (cs.take (k + 1))) (cs.drop (k + 1)) p) := by
  rw [drop_cons h, take_snoc h, lastN_snoc]
  rfl
theorem firstD_snoc (c : Nat) : ∀ (cs : List Nat) (f : Nat), firstD f (cs ++ [c]) = if firstD f cs < c then firstD f cs else firstD f cs + c
  | [], f => rfl
  | d :: cs, f => firstD_snoc c cs _
theorem lastD_snoc (c : Nat) : ∀ (cs : List Nat) (f L : Nat), lastD f L (cs ++ [c]) = if lastD f L cs ≤ c then lastD f L cs + c else lastD f L cs + lastN L cs
  | [], f, L => rfl
  | d :: cs, f, L => lastD_snoc c cs _ (2 * L)

theorem shN_le {L c p : Nat} (hc : c ≤ L) (hp : p ≤ 2 * L) : shN L c p ≤ L := by
  unfold shN
  split
  · omega
  · split <;> omega
theorem shN_spec (L c p : Nat) : (p < c ∧ shN L c p = p) ∨ (c ≤ p ∧ p ≤ c + L ∧ shN L c p = p - c) ∨ (c ≤ p ∧ c + L < p ∧ shN L c p = p - L) := by
  unfold shN
  by_cases h1 : p < c
  · exact .inl ⟨h1, if_pos h1⟩
  · by_cases h2 : p ≤ c + L
    · exact .inr (.inl ⟨by omega, h2, by rw [if_neg h1, if_pos h2]⟩)
    · exact .inr (.inr ⟨by omega, by omega, by rw [if_neg h1, if_neg h2]⟩)
theorem st1_spec (f c : Nat) : (f < c ∧ (if f < c then f else f + c) = f) ∨ (c ≤ f ∧ (if f < c then f else f + c) = f + c) := by
  by_cases h : f < c
  · exact .inl ⟨h, if_pos h⟩
  · exact .inr ⟨by omega, if_neg h⟩
theorem st2_spec (f c L : Nat) : (f ≤ c ∧ (if f ≤ c then f + c else f + L) = f + c) ∨ (c < f ∧ (if f ≤ c then f + c else f + L) = f + L) := by
  by_cases h : f ≤ c
  · exact .inl ⟨h, if_pos h⟩
  · exact .inr ⟨by omega, if_neg h⟩
theorem orig_le : ∀ (cs : List Nat) (L p : Nat), okS L cs → p ≤ lastN L cs → orig L cs p ≤ L
  | [], _, _, _, h => h
  | _ :: cs, L, p, ok, h => shN_le ok.1 (orig_le cs (2 * L) p ok.2 h)
theorem orig_first : ∀ (cs : List Nat) (L f : Nat), okS L cs → f ≤ L → orig L cs (firstD f cs) = f
  | [], _, _, _, _ => rfl
  | c :: cs, L, f, ok, hf => by
    have hc := ok.1
    show shN L c (orig (2 * L) cs (firstD (if f < c then f else f + c) cs)) = f
    have s1 := st1_spec f c
    rw [orig_first cs (2 * L) _ ok.2 (by omega)]
    have s2 := shN_spec L c (if f < c then f else f + c)
    omega
theorem orig_lt : ∀ (cs : List Nat) (L f p : Nat), okS L cs → f ≤ L → p < firstD f cs → orig L cs p < f
  | [], _, _, _, _, _, h => h
  | c :: cs, L, f, p, ok, hf, h => by
    have hc := ok.1
    have s1 := st1_spec f c
    have ih := orig_lt cs (2 * L) (if f < c then f else f + c) p ok.2 (by omega) h
    show shN L c (orig (2 * L) cs p) < f
    have s2 := shN_spec L c (orig (2 * L) cs p)
    omega
theorem firstD_le : ∀ (cs : List Nat) (L f : Nat), okS L cs → f ≤ L → firstD f cs ≤ lastN L cs
  | [], _, _, _, h => h
  | c :: cs, L, f, ok, hf => by
    have hc := ok.1
    have s1 := st1_spec f c
    exact firstD_le cs (2 * L) _ ok.2 (by omega)
theorem orig_last : ∀ (cs : List Nat) (L f : Nat), okS L cs → f ≤ L → orig L cs (lastD f L cs) = f
  | [], _, _, _, _ => rfl
  | c :: cs, L, f, ok, hf => by
    have hc := ok.1
    show shN L c (orig (2 * L) cs (lastD (if f ≤ c then f + c else f + L) (2 * L) cs)) = f
    have s1 := st2_spec f c L
    rw [orig_last cs (2 * L) _ ok.2 (by omega)]
    have s2 := shN_spec L c (if f ≤ c then f + c else f + L)
    omega
theorem orig_gt : ∀ (cs : List Nat) (L f p : Nat), okS L cs → f ≤ L → lastD f L cs < p → f < orig L cs p
  | [], _, _, _, _, _, h => h
  | c :: cs, L, f, p, ok, hf, h => by
    have hc := ok.1
    have s1 := st2_spec f c L
    have ih := orig_gt cs (2 * L) (if f ≤ c then f + c else f + L) p ok.2 (by omega) h
    show f < shN L c (orig (2 * L) cs p)
    have s2 := shN_spec L c (orig (2 * L) cs p)
    omega
theorem lastD_le : ∀ (cs : List Nat) (L f : Nat), okS L cs → f ≤ L → lastD f L cs ≤ lastN L cs
  | [], _, _, _, h => h
  | c :: cs, L, f, ok, hf => by
    have hc := ok.1
    have s1 := st2_spec f c L
    exact lastD_le cs (2 * L) _ ok.2 (by omega)
theorem first_le_last : ∀ (cs : List Nat) (L f g : Nat), okS L cs → f ≤ g → g ≤ L → firstD f cs ≤ lastD g L cs
  | [], _, _, _, _, h, _ => h
  | c :: cs, L, f, g, ok, h, hg => by
    have hc := ok.1
    have s1 := st1_spec f c
    have s2 := st2_spec g c L
    exact first_le_last cs (2 * L) _ _ ok.2 (by omega) (by omega)

/-! ### where two rows differ -/
def apart (r o : List Nat) (n : Nat) : List Nat := (List.range n).filter fun p => r.getD p 0 != o.getD p 0
theorem apart_succ (r o : List Nat) (n : Nat) : apart r o (n + 1) = apart r o n ++ (if (r.getD n 0 != o.getD n 0) = true then [n] else []) := by
  unfold apart
  rw [List.range_succ, List.filter_append, List.filter_cons]
  split <;> rfl
theorem apart_mem {r o : List Nat} {n p : Nat} : p ∈ apart r o n ↔ p < n ∧ r.getD p 0 ≠ o.getD p 0 := by
  unfold apart
  rw [List.mem_filter, List.mem_range]
  simp
theorem apart_len (r o : List Nat) (n : Nat) : (apart r o n).length ≤ n := by
  unfold apart
  have h := List.length_filter_le (fun p => r.getD p 0 != o.getD p 0) (List.range n)
  rw [List.length_range] at h
  exact h
theorem apart_first {r o : List Nat} : ∀ (n d : Nat), (apart r o n)[0]? = some d → ∀ p, p < d → r.getD p 0 = o.getD p 0
  | 0, d, h, _, _ => by simp [apart] at h
  | n + 1, d, h, p, hp => by
    rw [apart_succ] at h
    by_cases e : apart r o n = []
    · rw [e] at h
      have hd : d = n := by
        split at h
        · simpa using h.symm
        · simp at h
      subst hd
      by_cases q : r.getD p 0 = o.getD p 0
      · exact q
      · have m : p ∈ apart r o d := apart_mem.mpr ⟨hp, q⟩
        rw [e] at m
        simp at m
    · have l : 0 < (apart r o n).length := List.length_pos_iff.mpr e
      rw [List.getElem?_append_left l] at h
      exact apart_first n d h p hp
theorem apart_last {r o : List Nat} : ∀ (n : Nat) (ys : List Nat) (d : Nat), apart r o n = ys ++ [d] → ∀ p, d < p → p < n → r.getD p 0 = o.getD p 0
  | 0, ys, d, h, _, _, _ => by simp [apart] at h
  | n + 1, ys, d, h, p, hp, hn => by
    by_cases q : r.getD n 0 = o.getD n 0
    · rw [apart_succ, if_neg (by simpa using q), List.append_nil] at h
      by_cases e : p = n
      · rw [e]; exact q
      · exact apart_last n ys d h p hp (by omega)
    · rw [apart_succ, if_pos (by simpa using q)] at h
      have hd : n = d := by
        have e := congrArg List.getLast? h
        simpa using e
      omega

/-! ### order -/
theorem lt_first : ∀ (r o : List Nat) (d : Nat), r.length = o.length → d < r.length → (∀ p, p < d → r.getD p 0 = o.getD p 0) → r.getD d 0 ≠ o.getD d 0 → (r < o ↔ r.getD d 0 < o.getD d 0)
  | [], _, _, _, h, _, _ => by simp at h
  | _ :: _, [], _, h, _, _, _ => by simp at h
  | a :: r, b :: o, 0, hl, _, _, hne => by
    have e1 : (a :: r).getD 0 0 = a := rfl
    have e2 : (b :: o).getD 0 0 = b := rfl
    rw [e1, e2] at hne ⊢
    rw [List.cons_lt_cons_iff]
    constructor
    · rintro (h | ⟨h, _⟩)
      · exact h
      · exact absurd h hne
    · exact Or.inl
  | a :: r, b :: o, d + 1, hl, hd, hp, hne => by
    have e0 : a = b := hp 0 (Nat.succ_pos _)
    subst e0
    have ih := lt_first r o d (by simpa using hl) (by simpa using hd) (fun p h => hp (p + 1) (Nat.succ_lt_succ h)) hne
    rw [List.cons_lt_cons_iff]
    constructor
    · rintro (h | ⟨_, h⟩)
      · exact absurd h (Nat.lt_irrefl _)
      · exact ih.mp h
    · exact fun h => Or.inr ⟨rfl, ih.mpr h⟩
theorem lt_app : ∀ (a a' b b' : List Nat), a.length = a'.length → (a ++ b < a' ++ b' ↔ a < a' ∨ (a = a' ∧ b < b'))
  | [], [], b, b', _ => by simp
  | [], _ :: _, _, _, h => by simp at h
  | _ :: _, [], _, _, h => by simp at h
  | x :: a, y :: a', b, b', hl => by
    have ih := lt_app a a' b b' (by simpa using hl)
    clear hl
    rw [List.cons_append, List.cons_append, List.cons_lt_cons_iff, List.cons_lt_cons_iff, ih]
    constructor
    · rintro (h | ⟨rfl, h | ⟨rfl, h⟩⟩)
      · exact .inl (.inl h)
      · exact .inl (.inr ⟨rfl, h⟩)
      · exact .inr ⟨rfl, h⟩
    · rintro ((h | ⟨rfl, h⟩) | ⟨h, h2⟩)
      · exact .inl h
      · exact .inr ⟨rfl, .inl h⟩
      · cases h
        exact .inr ⟨rfl, .inr ⟨rfl, h2⟩⟩
/-- the row that a call makes -/
def callL (r : List Nat) (p : Nat) : List Nat := r.take p ++ (r.take p ++ (r.getD p 0 :: (r.drop (p + 1) ++ r.drop (p + 1))))
theorem callL_len {r : List Nat} {p : Nat} (h : p < r.length) : (callL r p).length + 1 = 2 * r.length := by
  unfold callL
  rw [List.length_append, List.length_append, List.length_cons, List.length_append, List.length_take, List.length_drop]
  omega
theorem split_at {r : List Nat} {p : Nat} (h : p < r.length) : r = r.take p ++ (r.getD p 0 :: r.drop (p + 1)) := by
  have e : r.getD p 0 = r[p] := by simp [List.getD, h]
  rw [e, ← List.drop_eq_getElem_cons h, List.take_append_drop]
theorem callL_lt {r o : List Nat} {p : Nat} (hl : r.length = o.length) (h : p < r.length) : (callL r p < callL o p ↔ r < o) := by
  have h2 : p < o.length := by omega
  have l1 : (r.take p).length = (o.take p).length := by rw [List.length_take, List.length_take]; omega
  have l2 : (r.drop (p + 1)).length = (o.drop (p + 1)).length := by rw [List.length_drop, List.length_drop]; omega
  have e1 := split_at h
  have e2 := split_at h2
  have k : r < o ↔ r.take p < o.take p ∨ (r.take p = o.take p ∧ (r.getD p 0 < o.getD p 0 ∨ (r.getD p 0 = o.getD p 0 ∧ r.drop (p + 1) < o.drop (p + 1)))) := by
    rw [← List.cons_lt_cons_iff, ← lt_app _ _ _ _ l1, ← e1, ← e2]
  rw [k]
  unfold callL
  rw [lt_app _ _ _ _ l1, lt_app _ _ _ _ l1, List.cons_lt_cons_iff, lt_app _ _ _ _ l2]
  constructor
  · rintro (h | ⟨h, h' | ⟨_, h'⟩⟩)
    · exact .inl h
    · exact .inl h'
    · rcases h' with h' | ⟨h', h'' | ⟨_, h''⟩⟩
      · exact .inr ⟨h, .inl h'⟩
      · exact .inr ⟨h, .inr ⟨h', h''⟩⟩
      · exact .inr ⟨h, .inr ⟨h', h''⟩⟩
  · rintro (h | ⟨h, h' | ⟨h', h''⟩⟩)
    · exact .inl h
    · exact .inr ⟨h, .inr ⟨h, .inl h'⟩⟩
    · exact .inr ⟨h, .inr ⟨h, .inr ⟨h', .inl h''⟩⟩⟩
def writeL : List Nat → List Nat → List Nat
  | r, [] => r
  | r, c :: cs => writeL (callL r c) cs
theorem writeL_snoc (c : Nat) : ∀ (cs r : List Nat), writeL r (cs ++ [c]) = callL (writeL r cs) c
  | [], _ => rfl
  | d :: cs, r => writeL_snoc c cs (callL r d)
theorem writeL_len : ∀ (cs : List Nat) (r : List Nat) (L : Nat), r.length = L + 1 → okS L cs → (writeL r cs).length = lastN L cs + 1
  | [], _, _, h, _ => h
  | c :: cs, r, L, h, ok => by
    have hc : c < r.length := by have := ok.1; omega
    have h2 := callL_len hc
    exact writeL_len cs (callL r c) (2 * L) (by omega) ok.2
theorem writeL_lt : ∀ (cs : List Nat) (r o : List Nat) (L : Nat), r.length = L + 1 → o.length = L + 1 → okS L cs → (writeL r cs < writeL o cs ↔ r < o)
  | [], _, _, _, _, _, _ => Iff.rfl
  | c :: cs, r, o, L, h, h', ok => by
    have hc : c < r.length := by have := ok.1; omega
    have hc' : c < o.length := by omega
    have h2 := callL_len hc
    have h2' := callL_len hc'
    have ih := writeL_lt cs (callL r c) (callL o c) (2 * L) (by omega) (by omega) ok.2
    exact ih.trans (callL_lt (by omega) hc)

/-! ### the letters of long rows -/
def letN (r : List Nat) (cs : List Nat) (p : Nat) : Nat := r.getD (orig (r.length - 1) cs p) 0
/-- the number of differences, call by call -/
def numF (r o cs : List Nat) : Nat → Int
  | 0 => ((apart r o r.length).length : Int)
  | k + 1 => 2 * numF r o cs k - (if letN r (cs.take k) (cs.getD k 0) ≠ letN o (cs.take k) (cs.getD k 0) then 1 else 0)
/-- the law for one story -/
theorem far_law {r o cs : List Nat} {d0 d1 : Nat} {ys : List Nat} (hr : 1 < r.length) (hl : r.length = o.length) (ok : okS (r.length - 1) cs) (h0 : (apart r o r.length)[0]? = some d0) (h1 : apart r o r.length = ys ++ [d1]) :
    firstD d0 cs ≤ lastD d1 (r.length - 1) cs ∧ lastD d1 (r.length - 1) cs ≤ lastN (r.length - 1) cs ∧
    (letN r cs (firstD d0 cs) ≠ letN o cs (firstD d0 cs)) ∧ (r < o ↔ letN r cs (firstD d0 cs) < letN o cs (firstD d0 cs)) ∧
    (letN r cs (lastD d1 (r.length - 1) cs) ≠ letN o cs (lastD d1 (r.length - 1) cs)) ∧
    (∀ p, p < firstD d0 cs → letN r cs p = letN o cs p) ∧ (∀ p, lastD d1 (r.length - 1) cs < p → p ≤ lastN (r.length - 1) cs → letN r cs p = letN o cs p) := by
  have m0 : d0 ∈ apart r o r.length := List.mem_of_getElem? h0
  have m1 : d1 ∈ apart r o r.length := by rw [h1]; simp
  obtain ⟨b0, n0⟩ := apart_mem.mp m0
  obtain ⟨b1, n1⟩ := apart_mem.mp m1
  have before := apart_first _ _ h0
  have behind := apart_last _ _ _ h1
  have hd : d0 ≤ d1 := by
    by_cases h : d0 ≤ d1
    · exact h
    · exact absurd (before d1 (by omega)) n1
  have e0 := orig_first cs (r.length - 1) d0 ok (by omega)
  have e1 := orig_last cs (r.length - 1) d1 ok (by omega)
  unfold letN
  rw [← hl, e0, e1]
  refine ⟨first_le_last cs _ _ _ ok hd (by omega), lastD_le cs _ _ ok (by omega), n0, lt_first r o d0 hl b0 before n0, n1, fun p hp => ?_, fun p hp hp2 => ?_⟩
  · exact before _ (orig_lt cs _ _ _ ok (by omega) hp)
  · have a1 := orig_gt cs _ _ _ ok (by omega) hp
    have a2 := orig_le cs _ _ ok hp2
    exact behind _ a1 (by omega)
end K68
/-! rules of my own over the hand layer -/
namespace K68
open PySem PySem.Spec PyProof.Rows L2 TL
section
variable {X : Cx}
/-- xs[j], by values -/
def rGetL (K : PySem.W.Frag) : V → V → Hp → VK → Prop := fun x y H Q => ∃ p xs j v, x = .ref p ∧ y = .int ((j : Nat) : Int) ∧ SqL K H p xs ∧ xs[j]? = some v ∧ Q v H
theorem get_list : PGet X (rGetL X.K) := by
  intro pins s σ H o i ov iv Q I ro ri h
  obtain ⟨p, xs, j, v, rfl, rfl, hq, hx, q⟩ := h
  cases ro
  obtain ⟨t, rfl⟩ := ri
  obtain ⟨its, r, pl, hz⟩ := I.list hq
  obtain ⟨w, ew, rw'⟩ := r.get hx
  have hl := r.length
  have hj := (List.getElem?_eq_some_iff.mp hx).1
  have hn := line63
  exact wpAny_getItem_list pl.isList (by omega) (by omega) (by simpa using ew) ⟨v, H, I, rw', q⟩
/-- text * n -/
theorem foldl_rep (a : Array Nat) : ∀ (k : Nat) (acc : Array Nat), ((List.replicate k a).foldl (· ++ ·) acc).toList = acc.toList ++ (List.replicate k a.toList).flatten
  | 0, acc => by simp
  | k + 1, acc => by
    rw [List.replicate_succ, List.foldl_cons, foldl_rep a k, List.replicate_succ, List.flatten_cons, Array.toList_append, List.append_assoc]
def rMulS : R2 := fun x y H Q => ∃ (z : Str) (n : Int), x = .str z ∧ y = .int n ∧ 1 ≤ n ∧ n ≤ 16777216 ∧ z.length * n.toNat ≤ sizeLine ∧ ∀ u : Str, tl u = (List.replicate n.toNat (tl z)).flatten → Q (.str u) H
theorem op_mulS : OpR X (binaryOp .Mult) rMulS := by
  intro pins s σ H x y v u Q I rx ry h
  obtain ⟨z, n, rfl, rfl, h1, h2, h3, q⟩ := h
  obtain ⟨t, rfl⟩ := rx
  obtain ⟨t', rfl⟩ := ry
  have hs : sizeLine = 16777216 := sizeLine_eq
  have hc : ((n.toNat : Nat) : Int) = n := Int.toNat_of_nonneg (by omega)
  refine PySem.P.mul_str ?_ (fun _ _ => ?_) (fun _ _ => ?_) ?_
  · rw [decide_eq_false (by omega), decide_eq_false (by omega)]
    rfl
  · have hm : (z.length : Int) * n ≤ 16777216 := by
      have e : ((z.length * n.toNat : Nat) : Int) = (z.length : Int) * n := by rw [Int.natCast_mul, hc]
      omega
    have hd : (z.length : Int) ≤ (2 ^ 63 - 1) / n := (Int.le_ediv_iff_mul_le (by omega)).mpr (by omega)
    omega
  · unfold Builtin.Str.tooLong
    exact decide_eq_false (by omega)
  · rw [if_neg (by omega)]
    by_cases c : (n == 1 || z.length == 0) = true
    · rw [if_pos c]
      refine (show EP X pins σ Q (.str z t) s from ⟨.str z, H, I, ⟨t, rfl⟩, q z ?_⟩)
      rcases Bool.or_eq_true_iff.mp c with c | c
      · have e : n = 1 := by simpa using c
        subst e
        show tl z = ([tl z] : List (List Nat)).flatten
        simp
      · have e : z.length = 0 := by simpa using c
        have e2 : tl z = [] := (len0_tl z).mp e
        rw [e2]
        simp
    · rw [if_neg c]
      have e := foldl_rep z.cps n.toNat #[]
      rw [show (#[] : Array Nat).toList = [] from rfl, List.nil_append] at e
      refine ⟨?_, .str _, H, I.tok _, ⟨_, rfl⟩, q _ e⟩
      have el : (⟨(List.replicate n.toNat z.cps).foldl (· ++ ·) #[]⟩ : Str).length = n.toNat * z.length := by
        rw [len_tl]
        show ((List.replicate n.toNat z.cps).foldl (· ++ ·) #[]).toList.length = _
        rw [e, List.length_flatten, List.map_replicate, List.sum_replicate_nat, len_tl]
      rw [el, Nat.mul_comm]
      exact h3
/-- text[::-1] -/
def tRevS (te : TE) : TE := fun σ H Q => te σ H fun x H1 => ∃ z : Str, x = .str z ∧ z.length ≤ sizeLine ∧ ∀ u : Str, tl u = (tl z).reverse → Q (.str u) H1
theorem rev_idx (n : Nat) : Builtin.Str.strSliceIndices none none (-1) n = (List.range n).reverse := by
  have e : Builtin.Str.strSliceIndices none none (-1) n = sliceRange ((n : Int) - 1) (-1) (-1) := by
    unfold Builtin.Str.strSliceIndices
    rfl
  rw [e, PySem.W.krv_sliceRange, PySem.W.krv_range]
theorem pe_revS {e : Expr} {te : TE} {k : Nat} {p1 p2 p3 pos : Pos} (he : PE X e te) : PE X (.Subscript e (.Slice none none (some (.UnaryOp .USub (.Constant (.int 1) k p1) p2)) p3) pos) (tRevS te) := by
  refine ⟨fun pins s σ H Q I h => ?_⟩
  refine Subscript_ (thn (he.run pins s σ H _ I h) fun v s1 ⟨x, H1, I1, r1, q1⟩ => ?_)
  obtain ⟨z, ex, hx, q⟩ := q1
  subst ex
  obtain ⟨t, rfl⟩ := r1
  have hst : PO X (some (.UnaryOp .USub (.Constant (.int 1) k p1) p2)) (tPart (tUn (rU fun i => .int (-i)) (tC (.int 1)))) := po_some (pe_un un_neg pe_int)
  refine wpAny_Slice (thn (po_none.run pins s1 σ H1 (fun o H2 => o = none ∧ H2 = H1) I1 ⟨rfl, rfl⟩) fun vl s2 ⟨l, H2, I2, pl, el, e2⟩ => ?_)
  subst el e2
  refine thn (po_none.run pins s2 σ H2 (fun o H3 => o = none ∧ H3 = H2) I2 ⟨rfl, rfl⟩) fun vu s3 ⟨u, H3, I3, pu, eu, e3⟩ => ?_
  subst eu e3
  refine thn (hst.run pins s3 σ H3 (fun o H4 => o = some (-1) ∧ H4 = H3) I3 ⟨1, rfl, -1, rfl, rfl, rfl⟩) fun vs s4 ⟨o, H4, I4, ps, eo, e4⟩ => ?_
  subst eo e4
  have I5 : Inv X pins σ H4 { s4 with heap := s4.heap.push { cls := .type "slice", data := .fields #[vl, vu, vs] } } := I4.kept (t' := s4.toks) fun b ob q => Heap.get?_push_of_some _ q
  cases pl
  cases pu
  cases ps with
  | int i ti =>
  show wpAny (model X.prog X.w) X.A (subscriptTail e (.Slice none none (some (.UnaryOp .USub (.Constant (.int 1) k p1) p2)) p3) (.str z t) (.ref s4.heap.objs.size)) (EP X pins σ Q) X.xe { s4 with heap := s4.heap.push { cls := .type "slice", data := .fields #[.none, .none, .int (-1) ti] } }
  refine tail_any (ops := [.str z t, .ref s4.heap.objs.size]) (typeIs_str _ z t) PySem.F.slot_str_getitem.lookup ?_ (by with_unfolding_all rfl)
  refine wpAny_getItem_str_slice (l := none) (u := none) (st := some (-1, ti)) ⟨_, Heap.get?_push_size _ rfl, rfl, rfl⟩ rfl ?_
  have e1 : (if (((some ((-1 : Int), ti)).map (·.1)).getD 1 == 1 && (Builtin.Str.strSliceIndices none none (-1) z.length).length == z.length) = true then Made.val (.str z t) else Made.str ⟨((Builtin.Str.strSliceIndices none none (-1) z.length).filterMap (z.cps[·]?)).toArray⟩) = Made.str ⟨((Builtin.Str.strSliceIndices none none (-1) z.length).filterMap (z.cps[·]?)).toArray⟩ := if_neg (by
    show ¬ ((((-1 : Int) == 1) && _) = true)
    rw [show ((-1 : Int) == 1) = false from rfl, Bool.false_and]
    exact Bool.false_ne_true)
  show Made.post (if (((some ((-1 : Int), ti)).map (·.1)).getD 1 == 1 && (Builtin.Str.strSliceIndices none none (-1) z.length).length == z.length) = true then Made.val (.str z t) else Made.str ⟨((Builtin.Str.strSliceIndices none none (-1) z.length).filterMap (z.cps[·]?)).toArray⟩) (EP X pins σ Q) _
  rw [e1]
  have e2 : tl (⟨((Builtin.Str.strSliceIndices none none (-1) z.length).filterMap (z.cps[·]?)).toArray⟩ : Str) = (tl z).reverse := by
    show (((Builtin.Str.strSliceIndices none none (-1) z.length).filterMap (z.cps[·]?)).toArray).toList = _
    rw [rev_idx, List.filterMap_reverse, show z.length = z.cps.size from rfl, PySem.W.krv_all]
  refine ⟨?_, .str _, H4, I5.tok _, ⟨_, rfl⟩, q _ e2⟩
  rw [len_tl, e2, List.length_reverse, ← len_tl]
  exact hx
/-- a op b op c op d -/
def tChain3 (r r' r'' : R2) (ta tb tc td : TE) : TE := fun σ H Q => ta σ H fun x H1 => tb σ H1 fun y H2 => r x y H2 fun z H3 => ∃ k, z = .bl k ∧
  (if k = true then tc σ H3 fun y' H4 => r' y y' H4 fun z' H5 => ∃ k', z' = .bl k' ∧ (if k' = true then td σ H5 fun y'' H6 => r'' y' y'' H6 Q else Q (.bl false) H5) else Q (.bl false) H3)
theorem pt_chain3 {a b c d : Expr} {ta tb tc td : TE} {pos : Pos} {op op' op'' : CmpOp} {r r' r'' : R2} (ho : OpR X (compareOp op) r) (ho' : OpR X (compareOp op') r') (ho'' : OpR X (compareOp op'') r'') (ha : PE X a ta) (hb : PE X b tb) (hc : PE X c tc) (hd : PE X d td)
    (hm : lastMarks [op, op', op''] [b, c, d] = false := by with_unfolding_all rfl) : PT X (.Compare a [op, op', op''] [b, c, d] pos) (tTest (tChain3 r r' r'' ta tb tc td)) := by
  refine ⟨fun pins s σ H Q I h => ?_⟩
  refine isTrue_chain (thn (ha.run pins s σ H _ I h) fun v s1 ⟨x, H1, I1, r1, q1⟩ => test_link (thn (hb.run pins s1 σ H1 _ I1 q1) fun u s2 ⟨y, H2, I2, r2, q2⟩ =>
    thn (ho pins s2 σ H2 x y v u _ I2 r1 r2 q2) fun d' s3 ⟨z, H3, I3, r3, k, e, q3⟩ => ?_)) hm
  subst e
  cases r3
  refine wpAny_truthy_bool ?_
  cases k with
  | false =>
    obtain ⟨k', e', q'⟩ := q3
    cases e'
    exact ite_ff ⟨H3, I3, q'⟩
  | true =>
    refine ite_tt ?_
    show wpAny (model X.prog X.w) X.A (testChain pos u [op', op''] [eval c X.env, eval d X.env]) _ _ _
    refine test_link (thn (hc.run pins s3 σ H3 _ I3 q3) fun w' s4 ⟨y', H4, I4, r4, q4⟩ => thn (ho' pins s4 σ H4 y y' u w' _ I4 r2 r4 q4) fun d2 s5 ⟨z', H5, I5, r5, k', e', q5⟩ => ?_)
    subst e'
    cases r5
    refine wpAny_truthy_bool ?_
    cases k' with
    | false =>
      obtain ⟨k2, e2, q'⟩ := q5
      cases e2
      exact ite_ff ⟨H5, I5, q'⟩
    | true =>
      refine ite_tt (test_last (thn (hd.run pins s5 σ H5 _ I5 q5) fun w3 s6 ⟨y'', H6, I6, r6, q6⟩ => thn (ho'' pins s6 σ H6 y' y'' w' w3 _ I6 r4 r6 q6) fun d3 s7 ⟨z2, H7, I7, r7, k3, e3, q7⟩ => ?_))
      subst e3
      cases r7
      exact wpAny_truthy_bool ⟨H7, I7, q7⟩
end
end K68
/-! zip of two texts; list(zip(a, b)) -/
namespace K68
open PySem PySem.Spec PyProof.Rows L2 TL

/-! ### for c, d in zip(text, text) -/
def ItzS (x y : Str) : It := ⟨fun i _ => i < min x.cps.size y.cps.size,
  fun i H v H' => ∃ T c d, v = .ref T ∧ H T = none ∧ H' = upd H T (.tup [.str ⟨#[c]⟩, .str ⟨#[d]⟩]) ∧ x.cps[i]? = some c ∧ y.cps[i]? = some d,
  fun i _ => i = min x.cps.size y.cps.size⟩
theorem turn_zipS {P : Program} {w : World} {K : PySem.W.Frag} {elts : List Expr} {kk : Nat} {tpos : Pos} {z TI TO i1 i2 : Addr} {x y : Str} {t u : Tok} (S : ZipSep2 z TI TO i1 i2 [i1] [i2]) :
    Turn P w K (.Tuple elts kk tpos) (ItzS x y) [z, TI, TO, i1, i2] z (fun i h => IsZip h z TI TO .none ∧ IsTupOf2 h TI (.ref i1) (.ref i2) ∧ (∃ a b, IsTupOf2 h TO a b) ∧ h.IsStrIter i1 (strIterType x) x t i ∧ h.IsStrIter i2 (strIterType y) y u i) where
  mem := by simp
  obj := fun i h st c hc => by
    obtain ⟨hz, hTI, ⟨a, b, hTO⟩, ⟨o1, e1, _, d1⟩, ⟨o2, e2, _, d2⟩⟩ := st
    have e' : c = z ∨ c = TI ∨ c = TO ∨ c = i1 ∨ c = i2 := by simpa using hc
    rcases e' with q | q | q | q | q
    · rw [q]; exact ⟨_, hz, fun v q => nomatch q⟩
    · rw [q]; exact ⟨_, hTI, fun v q => nomatch q⟩
    · rw [q]; exact ⟨_, hTO, fun v q => nomatch q⟩
    · rw [q]; exact ⟨o1, e1, fun v q => by rw [d1] at q; cases q⟩
    · rw [q]; exact ⟨o2, e2, fun v q => by rw [d2] at q; cases q⟩
  keep := fun i h h' st k => by
    obtain ⟨hz, hTI, ⟨a, b, hTO⟩, ⟨o1, e1, r1⟩, ⟨o2, e2, r2⟩⟩ := st
    exact ⟨k z (by simp) _ hz, k TI (by simp) _ hTI, ⟨a, b, k TO (by simp) _ hTO⟩, ⟨o1, k i1 (by simp) o1 e1, r1⟩, ⟨o2, k i2 (by simp) o2 e2, r2⟩⟩
  item := by
    intro X hP hw hK hc i pins s σ H E I hf st hg
    subst hP hw hK
    obtain ⟨hz, hTI, ⟨x0, y0, hTO⟩, h1, h2⟩ := st
    have hg : i < min x.cps.size y.cps.size := hg
    have hzl : z < s.heap.objs.size := Heap.lt_size hz
    have hh : X.A.in1.handled = none := I.ok.hd hc
    refine wpAny_pyNext_zipD2_item S (Draws.text hh i1 x t) (Draws.text hh i2 y u) hz hTI hTO h1 h2 (by omega) (by omega) fun x1 x2 h' tk p1 p2 z' TO' h1' h2' hT hsz hk => ?_
    obtain ⟨c, tc, hc1, rfl⟩ := p1
    obtain ⟨d, td, hd1, rfl⟩ := p2
    refine ⟨_, rfl, wpAny_letOwnedTupleGo_zip (s := { s with heap := h', toks := tk }) z' fun h'' z'' sb => ?_⟩
    have hT2 : h''.get? s.heap.objs.size = some { cls := .type "tuple", data := .seq #[.str ⟨#[c]⟩ tc, .str ⟨#[d]⟩ td] } := (sb.2 _ (Nat.ne_of_gt hzl)).trans hT
    have new : ObjOk X.prog X.w (upd H s.heap.objs.size (.tup [.str ⟨#[c]⟩, .str ⟨#[d]⟩])) h'' s.heap.objs.size (.tup [.str ⟨#[c]⟩, .str ⟨#[d]⟩]) :=
      ⟨by show 2 ≤ sizeLine; decide, [.str ⟨#[c]⟩ tc, .str ⟨#[d]⟩ td], .cons ⟨_, rfl⟩ (.cons ⟨_, rfl⟩ .nil), ⟨_, hT2, rfl, _, rfl⟩⟩
    have I1 : Inv X pins σ (upd H s.heap.objs.size (.tup [.str ⟨#[c]⟩, .str ⟨#[d]⟩])) { s with heap := h'', toks := tk } :=
      I.turnedNew (t' := tk) (ch := [z, TI, TO, i1, i2]) (fun c' o hb q => (sb.2 c' (fun q' => hb (by simp [q']))).trans (hk c' o (fun q' => hb (by simp [q'])) (fun q' => hb (by simp [q'])) (fun q' => hb (by simp [q'])) (fun q' => hb (by simp [q'])) q)) hf (Nat.le_refl _) new
    obtain ⟨o1, e1, r1⟩ := h1'
    obtain ⟨o2, e2, r2⟩ := h2'
    refine ⟨.ref s.heap.objs.size, _, I1, rfl, ⟨_, c, d, rfl, I.hok.fresh (Nat.le_refl _), rfl, hc1, hd1⟩, ⟨z'', ?_, ⟨.str ⟨#[c]⟩ tc, .str ⟨#[d]⟩ td, ?_⟩, ⟨o1, ?_, r1⟩, ⟨o2, ?_, r2⟩⟩, fun c' hcm => ?_⟩
    · exact (sb.2 _ S.TIz).trans (hk _ _ S.TIz S.TITO S.TIi1 S.TIi2 hTI)
    · exact (sb.2 _ S.TOz).trans TO'
    · exact (sb.2 _ S.zi1.symm).trans e1
    · exact (sb.2 _ S.zi2.symm).trans e2
    · have hlt : c' < s.heap.objs.size := by
        have e' : c' = z ∨ c' = TI ∨ c' = TO ∨ c' = i1 ∨ c' = i2 := by simpa using hcm
        rcases e' with q | q | q | q | q
        · rw [q]; exact hzl
        · rw [q]; exact Heap.lt_size hTI
        · rw [q]; exact Heap.lt_size hTO
        · rw [q]; obtain ⟨_, e1, _⟩ := h1; exact Heap.lt_size e1
        · rw [q]; obtain ⟨_, e2, _⟩ := h2; exact Heap.lt_size e2
      rw [upd_ne (Nat.ne_of_lt hlt)]
      exact (hf c' hcm).1
  done := by
    intro X hP hw hK hc i pins s σ H E I hf st hg
    subst hP hw hK
    obtain ⟨hz, hTI, ⟨x0, y0, hTO⟩, h1, h2⟩ := st
    have hg : i = min x.cps.size y.cps.size := hg
    have hh : X.A.in1.handled = none := I.ok.hd hc
    exact wpAny_pyNext_zipD2_end S (Draws.text hh i1 x t) (Draws.text hh i2 y u) hz hTI hTO h1 h2 (by omega) (by omega) (by omega) fun h' tk hk => ⟨rfl, I.turnedL (t' := tk) (ch := [z, TI, TO, i1, i2]) (fun c o hb q =>
      hk c o (fun q' => hb (by simp [q'])) (fun q' => hb (by simp [q'])) (fun q' => hb (by simp [q'])) (fun q' => hb (by simp [q'])) q) hf⟩
  self := fun A i s Q E st h => wpAny_pyIter_zip st.1 h
theorem sep_new (n : Nat) : ZipSep2 (n + 4) (n + 2) (n + 3) n (n + 1) [n] [n + 1] := by
  constructor <;> simp <;> exact fun h => absurd (show (_ : Nat) = _ from h) (by omega)
def iZipS (ta : TA) : TI := fun σ H R => ta σ H fun vs H1 => ∃ x y : Str, vs = [.str x, .str y] ∧ R (ItzS x y) H1
theorem pi_zipS {X : Cx} {e e2 : Expr} {ta : TA} {p pos tpos : Pos} {elts : List Expr} {kk : Nat} (hg : Gl X "zip") (hm : X.mg "zip" = none) (ha : PA X [e, e2] ta)
    (hs : starEach [e, e2] X.env = (false, eval e X.env) :: starEach [e2] X.env := by rfl) (hpl : (backTo pos (starEach [e2] X.env)).any (·.1) = false := by rfl) :
    PI X (.Tuple elts kk tpos) (.Call (.Name "zip" p) [e, e2] [] pos) (iZipS ta) := by
  refine ⟨fun pins s σ H R I h => ?_⟩
  refine Call_ (ld_blt I hg hm PyProof.Rows.boot_zip (PyProof.Rows.callWith_type1 (thn (ha.run pos pins s σ H _ I h) fun us s1 ⟨vs, H1, I1, r1, q1⟩ => ?_) hs hpl))
  obtain ⟨x, y, ex, q⟩ := q1
  subst ex
  obtain ⟨u1, u2, rfl, ⟨t, rfl⟩, ⟨u, rfl⟩⟩ := vals2 r1
  refine zip_begins2 (begins_text x t) (begins_text y u) trivial trivial fun h' hz hTI hTO h1 h2 hsz hk => wpAny_pyIter_zip hz ?_
  have I2 : Inv X pins σ H1 { s1 with heap := h' } := I1.kept (t' := s1.toks) hk
  refine ⟨s1.heap.objs.size + 4, [s1.heap.objs.size + 4, s1.heap.objs.size + 2, s1.heap.objs.size + 3, s1.heap.objs.size, s1.heap.objs.size + 1], _, _, H1, rfl, I2, turn_zipS (t := t) (u := u) (sep_new _), ⟨hz, hTI, ⟨_, _, hTO⟩, ⟨_, h1, rfl, rfl⟩, ⟨_, h2, rfl, rfl⟩⟩, fun c hcm => ?_, q⟩
  have e' : c = s1.heap.objs.size + 4 ∨ c = s1.heap.objs.size + 2 ∨ c = s1.heap.objs.size + 3 ∨ c = s1.heap.objs.size ∨ c = s1.heap.objs.size + 1 := by simpa using hcm
  have hle : s1.heap.objs.size ≤ c := by
    rcases e' with z | z | z | z | z
    · rw [z]; exact Nat.le_add_right _ _
    · rw [z]; exact Nat.le_add_right _ _
    · rw [z]; exact Nat.le_add_right _ _
    · rw [z]; exact Nat.le_refl _
    · rw [z]; exact Nat.le_add_right _ _
  exact I1.fpOk hle (I1.hok.fresh hle)
theorem walk_zipS {x y : Str} (h : y.cps.size = x.cps.size) : ∀ {g : TG} {tb : TS} {D : Ends} {σ : L2.St} {H : Hp} (Pv : Nat → L2.St → Hp → Prop), Pv 0 σ H →
    (∀ i T c d σ H, x.cps[i]? = some c → y.cps[i]? = some d → H T = none → Pv i σ H → g (.ref T) σ (upd H T (.tup [.str ⟨#[c]⟩, .str ⟨#[d]⟩])) fun σ2 H2 => tb { D with nx := Pv (i + 1), ct := Pv (i + 1), bk := D.nx } σ2 H2) → (∀ σ H, Pv x.cps.size σ H → D.nx σ H) →
    ∃ W : Nat → Nat → L2.St → Hp → Prop, (∃ m, W 0 m σ H) ∧ ∀ i m σ H, W i m σ H →
      ((ItzS x y).stop i H ∧ D.nx σ H) ∨ ((ItzS x y).go i H ∧ ∃ N : L2.St → Hp → Prop, (∀ σ' H', N σ' H' → ∃ m', m' < m ∧ W (i + 1) m' σ' H') ∧ ∀ v H', (ItzS x y).yld i H v H' → g v σ H' fun σ2 H2 => tb { D with nx := N, ct := N, bk := D.nx } σ2 H2) := by
  intro g tb D σ H Pv h0 hs hd
  refine ⟨fun i m σ H => m = x.cps.size - i ∧ i ≤ x.cps.size ∧ Pv i σ H, ⟨x.cps.size, by simp, Nat.zero_le _, h0⟩, ?_⟩
  rintro i m σ H ⟨rfl, hi, p⟩
  by_cases hlt : i < x.cps.size
  · refine .inr ⟨(show i < min x.cps.size y.cps.size by omega), Pv (i + 1), fun σ' H' p' => ⟨x.cps.size - (i + 1), by omega, rfl, hlt, p'⟩, fun v H' yl => ?_⟩
    obtain ⟨T, c, d, rfl, hT, rfl, hc, hd'⟩ := yl
    exact hs i T c d σ H hc hd' hT p
  · have e : i = x.cps.size := by omega
    subst e
    exact .inl ⟨(show x.cps.size = min x.cps.size y.cps.size by omega), hd σ H p⟩

/-! ### list(zip(a, b)) -/
theorem zip_no_len : typeLookup (.type "zip") "__len__" = pure none := am_miss_of_fast (by decide +kernel)
theorem zip_no_hint : typeLookup (.type "zip") "__length_hint__" = pure none := am_miss_of_fast (by decide +kernel)
/-- the zip at turn i: its tuple not yet out, or out and held -/
def ZSt (z TI TO i1 i2 l1 l2 : Addr) (xs ys : Array Value) (S : Addr) (i : Nat) (h : Heap) : Prop :=
  IsPair h TI (.ref i1) (.ref i2) ∧ h.IsListIter i1 l1 i ∧ h.IsListIter i2 l2 i ∧ h.IsList l1 xs ∧ h.IsList l2 ys ∧
  ((IsZip h z TI TO .none ∧ ∃ a b, IsPair h TO a b) ∨ ∃ T f oT, IsZipHeld h z TI TO T f ∧ h.get? T = some oT ∧ T ≠ z ∧ T ≠ i1 ∧ T ≠ i2 ∧ T ≠ S)
/-- what the list S holds at turn i, over the heap g0 of size B -/
structure ZJ (z TI TO i1 i2 l1 l2 : Addr) (xs ys : Array Value) (S : Nat) (g0 : Heap) (i : Nat) (h : Heap) (acc : Array Value) : Prop where
  ls : ∃ c, h.get? S = some { cls := .type "list", dict := none, data := .seq acc c, slots := #[] }
  sz : acc.size = i
  its : ∀ (j : Nat) (v : Value), acc[j]? = some v → ∃ (T : Addr) (x y : Value), v = Value.ref T ∧ S < T ∧ xs[j]? = some x ∧ ys[j]? = some y ∧ IsPair h T x y
  kp : ∀ b o, b ≠ S → b ≠ z → b ≠ TO → b ≠ i1 → b ≠ i2 → g0.get? b = some o → h.get? b = some o
  lt : z < S ∧ TI < S ∧ TO < S ∧ i1 < S ∧ i2 < S ∧ l1 < S ∧ l2 < S
section
variable {prog : Program} {w : World} {A : Around} {z TI TO i1 i2 l1 l2 : Addr} {xs ys : Array Value} {S : Nat} {g0 : Heap}
theorem ZSt.over {i : Nat} {h h' : Heap} (st : ZSt z TI TO i1 i2 l1 l2 xs ys S i h) (lt : z < S ∧ TI < S ∧ TO < S ∧ i1 < S ∧ i2 < S ∧ l1 < S ∧ l2 < S) (hk : ∀ b o, b ≠ S → h.get? b = some o → h'.get? b = some o) : ZSt z TI TO i1 i2 l1 l2 xs ys S i h' := by
  obtain ⟨a1, a2, a3, a4, a5, a6, a7⟩ := lt
  obtain ⟨hTI, h1, h2, hl1, hl2, hz⟩ := st
  refine ⟨hk _ _ (Nat.ne_of_lt a2) hTI, h1.at fun o e => hk _ o (Nat.ne_of_lt a4) e, h2.at fun o e => hk _ o (Nat.ne_of_lt a5) e, hl1.at fun o e => hk _ o (Nat.ne_of_lt a6) e, hl2.at fun o e => hk _ o (Nat.ne_of_lt a7) e, ?_⟩
  rcases hz with ⟨hz, a, b, hTO⟩ | ⟨T, f, oT, hz, hT, r1, r2, r3, r4⟩
  · exact .inl ⟨hk _ _ (Nat.ne_of_lt a1) hz, a, b, hk _ _ (Nat.ne_of_lt a3) hTO⟩
  · exact .inr ⟨T, f, oT, hk _ _ (Nat.ne_of_lt a1) hz, hk _ _ r4 hT, r1, r2, r3, r4⟩
theorem ZJ.mono {i : Nat} {h h' : Heap} {acc : Array Value} (J : ZJ z TI TO i1 i2 l1 l2 xs ys S g0 i h acc) (hk' : ∀ b o, b ≠ z → b ≠ TO → b ≠ i1 → b ≠ i2 → h.get? b = some o → h'.get? b = some o) : ZJ z TI TO i1 i2 l1 l2 xs ys S g0 i h' acc := by
  obtain ⟨a1, a2, a3, a4, a5, a6, a7⟩ := J.lt
  obtain ⟨c, ls⟩ := J.ls
  refine ⟨⟨c, hk' _ _ (Nat.ne_of_gt a1) (Nat.ne_of_gt a3) (Nat.ne_of_gt a4) (Nat.ne_of_gt a5) ls⟩, J.sz, fun j v hj => ?_, fun b o b0 b1 b2 b3 b4 e => hk' b o b1 b2 b3 b4 (J.kp b o b0 b1 b2 b3 b4 e), J.lt⟩
  obtain ⟨T, x, y, e1, e2, e3, e4, e5⟩ := J.its j v hj
  exact ⟨T, x, y, e1, e2, e3, e4, hk' _ _ (Nat.ne_of_gt (Nat.lt_trans a1 e2)) (Nat.ne_of_gt (Nat.lt_trans a3 e2)) (Nat.ne_of_gt (Nat.lt_trans a4 e2)) (Nat.ne_of_gt (Nat.lt_trans a5 e2)) e5⟩
theorem zip_loop {R : Result → Shared → Prop} (D : ZipApart z TI TO i1 i2 l1 l2) (hh : A.handled = none) (hn : min xs.size ys.size ≤ sizeLine) (res : Value) :
    ∀ (k i : Nat) (s : Shared) (acc : Array Value), min xs.size ys.size - i = k → i ≤ min xs.size ys.size → ZSt z TI TO i1 i2 l1 l2 xs ys S i s.heap → ZJ z TI TO i1 i2 l1 l2 xs ys S g0 i s.heap acc →
    (∀ h' acc', ZJ z TI TO i1 i2 l1 l2 xs ys S g0 (min xs.size ys.size) h' acc' → R (.ok (.ret res)) { s with heap := h' }) →
    codeAny (model prog w) A (.builtin "list.extend.loop" ⟨[.ref S, .ref z, res], []⟩) R s := by
  intro k
  induction k with
  | zero =>
    intro i s acc hk hi st J hR
    have hin : i = min xs.size ys.size := by omega
    subst hin
    refine codeAny_builtin F.entry_extend_loop ?_
    rw [Around.under_plainId F.plain_extend_loop _]
    show wpAny _ A.in1 (pyNext (.ref z) >>= _) _ _ s
    obtain ⟨hTI, h1, h2, hl1, hl2, hz⟩ := id st
    obtain ⟨a1, a2, a3, a4, a5, a6, a7⟩ := J.lt
    have hh1 : A.in1.handled = none := hh
    have hend : xs[min xs.size ys.size]? = none ∨ ys[min xs.size ys.size]? = none := by
      rcases Nat.le_total xs.size ys.size with h | h
      · exact .inl (Array.getElem?_eq_none (by rw [Nat.min_eq_left h]; exact Nat.le_refl _))
      · exact .inr (Array.getElem?_eq_none (by rw [Nat.min_eq_right h]; exact Nat.le_refl _))
    rcases hz with ⟨hz, a, b, hTO⟩ | ⟨T, f, oT, hz, hT, r1, r2, r3, r4⟩
    · exact wpAny_bind (wpAny_pyNext_zip_end hh1 D hz hTI hTO h1 h2 hl1 hl2 hend fun h' hk' => wpAny_pure (hR h' acc (J.mono fun b o c1 c2 c3 c4 e => hk' b o c1 c2 c3 c4 e)))
    · exact wpAny_bind (wpAny_pyNext_zip_end_held hh1 D hz hT hTI h1 h2 hl1 hl2 hend fun h' hk' => wpAny_pure (hR h' acc (J.mono fun b o c1 _ c3 c4 e => hk' b o c1 c3 c4 e)))
  | succ k ih =>
    intro i s acc hk hi st J hR
    have hlt : i < min xs.size ys.size := by omega
    refine codeAny_builtin F.entry_extend_loop ?_
    rw [Around.under_plainId F.plain_extend_loop _]
    show wpAny _ A.in1 (pyNext (.ref z) >>= _) _ _ s
    obtain ⟨hTI, h1, h2, hl1, hl2, hz⟩ := id st
    obtain ⟨a1, a2, a3, a4, a5, a6, a7⟩ := J.lt
    have ex : xs[i]? = some (xs[i]'(by omega)) := Array.getElem?_eq_getElem (by omega)
    have ey : ys[i]? = some (ys[i]'(by omega)) := Array.getElem?_eq_getElem (by omega)
    obtain ⟨c, ls⟩ := J.ls
    have hSlt : S < s.heap.objs.size := Heap.lt_size ls
    -- behind the next: the pair onto the list
    have go : ∀ (h' : Heap), ZSt z TI TO i1 i2 l1 l2 xs ys S (i + 1) h' → IsPair h' s.heap.objs.size (xs[i]'(by omega)) (ys[i]'(by omega)) →
        (∀ b o, b ≠ z → b ≠ TO → b ≠ i1 → b ≠ i2 → s.heap.get? b = some o → h'.get? b = some o) →
        wpAny (model prog w) A.in1 (updateSeq S (·.push (.ref s.heap.objs.size)) >>= fun _ => again (.builtin "list.extend.loop" ⟨[.ref S, .ref z, res], []⟩))
          (fun fin s' => match fin with | .done f => R (.ok f) s' | .again c' => c'.quiet = true ∧ codeAny (model prog w) A c' R s') (fun e s' => R (.error e) s') { s with heap := h' } := fun h' st' hp hk' => by
      have hS' : h'.get? S = some { cls := .type "list", dict := none, data := .seq acc c, slots := #[] } := hk' _ _ (Nat.ne_of_gt a1) (Nat.ne_of_gt a3) (Nat.ne_of_gt a4) (Nat.ne_of_gt a5) ls
      have oth : ∀ (g : Heap), g.get? S = some { cls := .type "list", dict := none, data := .seq acc c, slots := #[] } → ∀ b o, b ≠ S → g.get? b = some o → (g.update S (Obj.mapSeq (·.push (.ref s.heap.objs.size)))).get? b = some o := fun g _ b o hb e => (Heap.get?_update_other _ _ (Ne.symm hb)).trans e
      refine wpAny_bind ?_
      refine wpAny_updateSeq hS' rfl (wpAny_pure ⟨plainId_quiet F.plain_extend_loop _, ih (i + 1) _ (acc.push (.ref s.heap.objs.size)) (by omega) hlt (st'.over J.lt (oth h' hS')) ?_ fun h'' acc' J' => ?_⟩)
        (by rw [J.sz]; omega) (by show (acc.push (.ref s.heap.objs.size)).size ≤ sizeLine + 1; rw [Array.size_push, J.sz]; omega)
      · have oth := oth h' hS'
        refine ⟨⟨_, Heap.get?_update_self _ hS' rfl⟩, by rw [Array.size_push, J.sz], fun j v hj => ?_, fun b o b0 b1 b2 b3 b4 e => oth b o b0 (hk' b o b1 b2 b3 b4 (J.kp b o b0 b1 b2 b3 b4 e)), J.lt⟩
        rw [Array.getElem?_push] at hj
        split at hj
        · rename_i e
          rw [J.sz] at e
          cases hj
          subst e
          exact ⟨_, _, _, rfl, hSlt, ex, ey, oth _ _ (Nat.ne_of_gt hSlt) hp⟩
        · obtain ⟨T, x, y, e1, e2, e3, e4, e5⟩ := J.its j v hj
          exact ⟨T, x, y, e1, e2, e3, e4, oth _ _ (Nat.ne_of_gt e2) (hk' _ _ (Nat.ne_of_gt (Nat.lt_trans a1 e2)) (Nat.ne_of_gt (Nat.lt_trans a3 e2)) (Nat.ne_of_gt (Nat.lt_trans a4 e2)) (Nat.ne_of_gt (Nat.lt_trans a5 e2)) e5)⟩
      · exact hR h'' acc' J'
    have lt : ∀ {c o}, s.heap.get? c = some o → s.heap.objs.size ≠ c := fun e => Nat.ne_of_gt (Heap.lt_size e)
    have n1 : s.heap.objs.size ≠ i1 := let ⟨_, e, _⟩ := h1; lt e
    have n2 : s.heap.objs.size ≠ i2 := let ⟨_, e, _⟩ := h2; lt e
    rcases hz with ⟨hz, a, b, hTO⟩ | ⟨T, f, oT, hz, hT, r1, r2, r3, r4⟩
    · refine wpAny_bind (wpAny_pyNext_zip_item D hz hTI hTO h1 h2 hl1 hl2 ex ey fun h' b1 b2 b3 b4 b5 b6 hk' => ?_)
      exact go h' ⟨hk' _ _ D.TIz D.TITO D.TIi1 D.TIi2 hTI, b3, b4, hl1.at fun o e => hk' _ o D.l1z D.l1TO D.l1i1 D.l1i2 e, hl2.at fun o e => hk' _ o D.l2z D.l2TO D.l2i1 D.l2i2 e,
        .inr ⟨s.heap.objs.size, false, _, b1, b5, lt hz, n1, n2, Nat.ne_of_gt hSlt⟩⟩ b5 hk'
    · refine wpAny_bind (wpAny_pyNext_zip_item_held D hz hT hTI h1 h2 hl1 hl2 ex ey fun h' b1 b3 b4 b5 b6 hk' => ?_)
      exact go h' ⟨hk' _ _ D.TIz D.TIi1 D.TIi2 hTI, b3, b4, hl1.at fun o e => hk' _ o D.l1z D.l1i1 D.l1i2 e, hl2.at fun o e => hk' _ o D.l2z D.l2i1 D.l2i2 e,
        .inr ⟨T, true, oT, b1, hk' _ _ r1 r2 r3 hT, r1, r2, r3, r4⟩⟩ b5 fun b o c1 _ c3 c4 e => hk' b o c1 c3 c4 e
/-- list(z), z a zip that has just come -/
theorem call_list_zip {s : Shared} {E : Value → Shared → Prop} {Q : Value → Shared → Prop} (D : ZipApart z TI TO i1 i2 l1 l2) (hh : A.handled = none) (hn : min xs.size ys.size ≤ sizeLine)
    (st : ZSt z TI TO i1 i2 l1 l2 xs ys s.heap.objs.size 0 s.heap) (hz : ∃ f, IsZip s.heap z TI TO f) (lt : z < s.heap.objs.size ∧ TI < s.heap.objs.size ∧ TO < s.heap.objs.size ∧ i1 < s.heap.objs.size ∧ i2 < s.heap.objs.size ∧ l1 < s.heap.objs.size ∧ l2 < s.heap.objs.size)
    (hQ : ∀ h' acc, ZJ z TI TO i1 i2 l1 l2 xs ys s.heap.objs.size s.heap (min xs.size ys.size) h' acc → Q (.ref s.heap.objs.size) { s with heap := h' }) :
    wpAny (model prog w) A (call (.type "list") [.ref z]) Q E s := by
  obtain ⟨f0, hz⟩ := hz
  obtain ⟨g, gg, d, tk, os⟩ := s
  refine callType_codes (Q₁ := fun obj s₁ => obj = .ref g.objs.size ∧ s₁ = ⟨g.push { cls := .type "list", data := .seq #[] }, gg, d, tk, os⟩) PySem.F.called_list (PySem.F.typeCall_list_1 _) PySem.F.entry_list_init
    (code_list_new _ ⟨rfl, rfl⟩) fun obj s₁ h₁ => ?_
  obtain ⟨rfl, rfl⟩ := h₁
  have hS : (g.push { cls := .type "list", data := .seq #[] }).get? g.objs.size = some { cls := .type "list", data := .seq #[] } := Heap.get?_push_size _ rfl
  have hSz : g.objs.size ≠ z := Nat.ne_of_gt lt.1
  have oth0 : ∀ b o, b ≠ g.objs.size → g.get? b = some o → (g.push { cls := .type "list", data := .seq #[] }).get? b = some o := fun b o _ e => Heap.get?_push_of_some _ e
  refine ⟨⟨_, hS, rfl⟩, PySem.F.args_list_init_2 _ _, ?_⟩
  show wpAny _ _ (do let old ← Builtin.List.listItems (.ref g.objs.size); Builtin.List.listUpdate (.ref g.objs.size) (fun _ => #[]); letGo old.toList.reverse; Builtin.List.listExtendWith (.ref g.objs.size) (.ref z) .none) _ _ _
  refine wpAny_bind ?_
  unfold Builtin.List.listItems
  refine wpAny_bind (wpAny_seqItems hS rfl (wpAny_pure ?_))
  show wpAny _ _ (updateSeq g.objs.size (fun _ => #[]) >>= fun _ => letGo (#[] : Array Value).toList.reverse >>= fun _ => Builtin.List.listExtendWith (.ref g.objs.size) (.ref z) .none) _ _ _
  refine wpAny_bind (wpAny_updateSeq hS rfl ?_)
  have hS₂ := Heap.get?_update_self (Obj.mapSeq (fun _ => (#[] : Array Value))) hS rfl
  have oth1 : ∀ b o, b ≠ g.objs.size → g.get? b = some o → ((g.push { cls := .type "list", data := .seq #[] }).update g.objs.size (Obj.mapSeq (fun _ => (#[] : Array Value)))).get? b = some o :=
    fun b o hb e => (Heap.get?_update_other _ _ (Ne.symm hb)).trans (oth0 b o hb e)
  generalize hg1 : (g.push { cls := .type "list", data := .seq #[] }).update g.objs.size (Obj.mapSeq (fun _ => (#[] : Array Value))) = g1 at hS₂ oth1
  refine wpAny_bind (wpAny_letGo ?_)
  unfold Builtin.List.listExtendWith
  have hz1 := oth1 _ _ (Ne.symm hSz) hz
  have hT : ∀ tk' : Nat, (⟨g1, gg, d, tk', os⟩ : Shared).TypeIs (.ref z) "zip" := fun _ => ⟨_, hz1, rfl⟩
  refine wpAny_bind (wpAny_typeOf (T := "zip") (hT _) ?_)
  have h1 : Builtin.List.listSameRef (.ref g.objs.size) (.ref z) = false := by simp [Builtin.List.listSameRef, hSz]
  have h2 : (Value.type "zip" == Value.type "list") = false := by decide
  have h3 : (Value.type "zip" == Value.type "tuple") = false := by decide
  simp only [h1, h2, h3, Bool.or_false, Bool.false_eq_true, if_false]
  refine wpAny_bind (wpAny_pyIter_zip hz1 ?_)
  refine wpAny_bind (wpAny_holding ?_)
  unfold Builtin.List.listLengthHint
  refine wpAny_bind (wpAny_specialOf (hT _) zip_no_len ?_)
  show wpAny _ _ (specialOf (Value.ref z) (Str.ofString "__length_hint__") >>= _) _ _ _
  refine wpAny_bind (wpAny_specialOf (hT _) zip_no_hint ?_)
  refine wpAny_pure ?_
  show wpAny _ _ (rule "list.extend.makes-room" >>= fun _ => Builtin.List.listTouch (.ref g.objs.size) >>= fun _ =>
    again (.builtin "list.extend.loop" ⟨[.ref g.objs.size, .ref z, .none], []⟩)) _ _ _
  refine wpAny_bind (wpAny_rule ?_)
  refine wpAny_bind ?_
  show wpAny _ _ (updateSeq g.objs.size (·.push .none) >>= fun _ => updateSeq g.objs.size (·.pop)) _ _ _
  refine wpAny_bind (wpAny_updateSeq hS₂ rfl ?_)
  have hS₃ := Heap.get?_update_self (Obj.mapSeq (·.push Value.none)) hS₂ rfl
  refine wpAny_updateSeq hS₃ rfl ?_
  have hS₄ := Heap.get?_update_self (Obj.mapSeq (·.pop)) hS₃ rfl
  have oth2 : ∀ b o, b ≠ g.objs.size → g.get? b = some o → ((g1.update g.objs.size (Obj.mapSeq (·.push Value.none))).update g.objs.size (Obj.mapSeq (·.pop))).get? b = some o :=
    fun b o hb e => (Heap.get?_update_other _ _ (Ne.symm hb)).trans ((Heap.get?_update_other _ _ (Ne.symm hb)).trans (oth1 b o hb e))
  refine wpAny_pure ⟨plainId_quiet F.plain_extend_loop _, ?_⟩
  refine zip_loop (A := A.in1) (xs := xs) (ys := ys) (S := g.objs.size) (g0 := g) D hh hn .none _ 0 ⟨(g1.update g.objs.size (Obj.mapSeq (·.push Value.none))).update g.objs.size (Obj.mapSeq (·.pop)), gg, d, tk, os⟩ #[] rfl (Nat.zero_le _) (st.over lt oth2) ⟨⟨_, hS₄⟩, rfl, fun j v hj => ?_, fun b o b0 _ _ _ _ e => oth2 b o b0 e, lt⟩ fun h' acc J => ?_
  · rw [show (#[] : Array Value)[j]? = none from by simp] at hj
    cases hj
  · exact ⟨rfl, hQ h' acc J⟩
end
end K68
/-! list(zip(a, b)) as a rule of the layer -/
namespace K68
open PySem PySem.Spec PyProof.Rows L2 TL
theorem inv_many {X : Cx} {pins : List (Addr × Obj)} {σ : L2.St} {H H' : Hp} {s : Shared} {h' : Heap} {t' : Nat} (I : Inv X pins σ H s) (k : ∀ b u, s.heap.get? b = some u → h'.get? b = some u)
    (he : ∀ b, b < s.heap.objs.size → H' b = H b) (new : ∀ b o, s.heap.objs.size ≤ b → H' b = some o → ObjOk X.prog X.w H' h' b o) : Inv X pins σ H' { s with heap := h', toks := t' } := by
  have hn : ∀ b u, H b = some u → H' b = some u := fun b u e => (he b (I.hok.lt e)).trans e
  refine I.un (t' := t') ⟨fun b u q _ _ _ => k b u q, fun b u q _ _ _ => ⟨u.slots, k b u q⟩, fun b u q n _ => (he b (Heap.lt_size q)).trans n, fun b u q _ => ⟨u, k b u q⟩, fun b xs q => hn _ _ q, fun b u xs q => hn _ _ q, fun b ps q => ⟨#[], by rw [hn _ _ q]; simp⟩⟩ fun b o e => ?_
  by_cases hb : b < s.heap.objs.size
  · rw [he b hb] at e
    exact (I.hok b o e).stay (fun c v _ q => k c v q) (fun c q => hn _ _ q) fun c xs q => hn _ _ q
  · exact new b o (Nat.le_of_not_lt hb) e
theorem ne_addN {b B : Nat} (k : Nat) (h : b < B) : b ≠ B + k := Nat.ne_of_lt (Nat.lt_of_lt_of_le h (Nat.le_add_right _ _))
theorem nlt_addN {T B : Nat} (k : Nat) (h : B + k < T) : ¬ T < B := Nat.not_lt.mpr (Nat.le_trans (Nat.le_add_right _ _) (Nat.le_of_lt h))
theorem le_addN {T B : Nat} (k : Nat) (h : B + k < T) : B ≤ T := Nat.le_trans (Nat.le_add_right _ _) (Nat.le_of_lt h)
def pairOf (h : Heap) (b : Addr) : Option HO := match h.get? b with
  | some o => (match o.data with
    | Data.seq a _ => (match a.toList with
      | [u, v] => (match absV u, absV v with
        | some x, some y => some (.tup [x, y])
        | _, _ => none)
      | _ => none)
    | _ => none)
  | none => none
theorem pairOf_eq {h : Heap} {T : Addr} {u v : Value} {x y : V} (e : IsPair h T u v) (rx : RelV x u) (ry : RelV y v) : pairOf h T = some (.tup [x, y]) := by
  unfold pairOf
  rw [show h.get? T = some { cls := .type "tuple", data := .seq #[u, v] } from e]
  show (match absV u, absV v with
      | some x, some y => some (HO.tup [x, y])
      | _, _ => none) = _
  rw [rx.abs, ry.abs]
def refOf : Value → Addr
  | .ref a => a
  | _ => 0
theorem refs_of : ∀ (us : List Value), (∀ u ∈ us, ∃ a : Addr, u = .ref a) → us = (us.map refOf).map Value.ref
  | [], _ => rfl
  | u :: r, h => by
    obtain ⟨a, rfl⟩ := h u List.mem_cons_self
    rw [List.map_cons, List.map_cons, ← refs_of r fun u hu => h u (List.mem_cons_of_mem _ hu)]
    rfl
theorem vals_refs' : ∀ bs : List Addr, Vals (bs.map V.ref) (bs.map Value.ref)
  | [] => .nil
  | _ :: r => .cons rfl (vals_refs' r)
def tListZip (K : PySem.W.Frag) (ta : TA) : TE := fun σ H Q => ta σ H fun vs H1 => ∃ (a b : Addr) (xs ys : List V), vs = [.ref a, .ref b] ∧ SqL K H1 a xs ∧ SqL K H1 b ys ∧
  ∀ (l : Addr) (Ts : List Addr) (H2 : Hp), Same H1 H2 → H1 l = none → Ts.length = min xs.length ys.length →
    (∀ (i : Nat) (T : Addr), Ts[i]? = some T → H1 T = none ∧ ∃ x y, xs[i]? = some x ∧ ys[i]? = some y ∧ H2 T = some (.tup [x, y])) → H2 l = some (.lst (Ts.map V.ref)) → Q (.ref l) H2
theorem pe_listZip {X : Cx} {e e2 : Expr} {ta : TA} {p pos p1 pos1 : Pos} (hc : X.calm = true) (hl : Gl X "list") (ml : X.mg "list" = none) (hg : Gl X "zip") (hm : X.mg "zip" = none) (ha : PA X [e, e2] ta)
    (hs : starEach [e, e2] X.env = (false, eval e X.env) :: starEach [e2] X.env := by rfl) (hpl : (backTo pos (starEach [e2] X.env)).any (·.1) = false := by rfl)
    (hs1 : starEach [.Call (.Name "zip" p) [e, e2] [] pos] X.env = (false, eval (.Call (.Name "zip" p) [e, e2] [] pos) X.env) :: starEach [] X.env := by rfl) :
    PE X (.Call (.Name "list" p1) [.Call (.Name "zip" p) [e, e2] [] pos] [] pos1) (tListZip X.K ta) := by
  refine ⟨fun pins s σ H Q I h => ?_⟩
  refine Call_ (ld_blt I hl ml boot_list (PyProof.Rows.callWith_type1 (args_cons ?_ hs1) hs1 rfl))
  refine Call_ (ld_blt I hg hm PyProof.Rows.boot_zip (PyProof.Rows.callWith_type1 (thn (ha.run pos pins s σ H _ I h) fun us s1 ⟨vs, H1, I1, r1, q1⟩ => ?_) hs hpl))
  obtain ⟨a, b, xs, ys, ex, hqx, hqy, q⟩ := q1
  subst ex
  obtain ⟨u1, u2, rfl, r1, r2⟩ := vals2 r1
  cases r1
  cases r2
  obtain ⟨its, rv, pl1, z1⟩ := I1.list hqx
  obtain ⟨its2, rv2, pl2, z2⟩ := I1.list hqy
  have la : a < s1.heap.objs.size := pl1.lt
  have lb : b < s1.heap.objs.size := pl2.lt
  have e1 := rv.length
  have e2' := rv2.length
  refine call_zip_2 pl1.isList pl2.isList fun h1 hz hTI hTO i1 i2 hsz hk => args_nil ?_
  have L : ∀ {c : Nat}, c < s1.heap.objs.size + 5 → c < h1.objs.size := fun hc => by rw [hsz]; exact hc
  refine call_list_zip (s := { s1 with heap := h1 }) (xs := its.toArray) (ys := its2.toArray) (PySem.W.ktu_apart s1.heap.objs.size a b la lb) (I.ok.hd hc) (by simp only [List.size_toArray]; omega)
    ⟨hTI, i1, i2, pl1.isList.at fun o e => hk _ o e, pl2.isList.at fun o e => hk _ o e, .inl ⟨hz, _, _, hTO⟩⟩ ⟨_, hz⟩
    ⟨L (by omega), L (by omega), L (by omega), L (by omega), L (by omega), L (Nat.lt_of_lt_of_le la (Nat.le_add_right _ _)), L (Nat.lt_of_lt_of_le lb (Nat.le_add_right _ _))⟩ fun h' acc J => ?_
  show EP X pins σ Q (.ref h1.objs.size) { s1 with heap := h' }
  obtain ⟨c, ls⟩ := J.ls
  have ls : h'.get? h1.objs.size = some { cls := .type "list", dict := none, data := .seq acc c, slots := #[] } := ls
  have jk := J.kp
  have jt := J.its
  have jz := J.sz
  simp only [List.size_toArray, List.getElem?_toArray] at jt jz
  have hall : ∀ u ∈ acc.toList, ∃ a : Addr, u = .ref a := fun u hu => by
    obtain ⟨j, hj⟩ := List.getElem?_of_mem hu
    obtain ⟨T, x, y, e, _⟩ := jt j u (by rw [← Array.getElem?_toList]; exact hj)
    exact ⟨T, e⟩
  have eacc := refs_of acc.toList hall
  generalize hTs : acc.toList.map refOf = Ts at eacc
  have hTl : Ts.length = min xs.length ys.length := by rw [← hTs, List.length_map, Array.length_toList, jz, e1, e2']
  -- the j-th pair
  have pr : ∀ (j : Nat) (T : Addr), Ts[j]? = some T → h1.objs.size < T ∧ ∃ x y u v, xs[j]? = some x ∧ ys[j]? = some y ∧ IsPair h' T u v ∧ RelV x u ∧ RelV y v := fun j T hj => by
    have hv : acc[j]? = some (.ref T) := by
      rw [← Array.getElem?_toList, eacc, List.getElem?_map, hj]
      rfl
    obtain ⟨T', u, v, e, l1, hx, hy, ip⟩ := jt j _ hv
    cases e
    have hj1 : j < xs.length := by
      have := (List.getElem?_eq_some_iff.mp hx).1
      omega
    have hj2 : j < ys.length := by
      have := (List.getElem?_eq_some_iff.mp hy).1
      omega
    obtain ⟨u', hu', ru⟩ := rv.get (List.getElem?_eq_getElem hj1)
    obtain ⟨v', hv', rv'⟩ := rv2.get (List.getElem?_eq_getElem hj2)
    rw [hx] at hu'
    cases hu'
    rw [hy] at hv'
    cases hv'
    exact ⟨l1, _, _, u, v, List.getElem?_eq_getElem hj1, List.getElem?_eq_getElem hj2, ip, ru, rv'⟩
  let H2 : Hp := fun b => if b < s1.heap.objs.size then H1 b else if b = h1.objs.size then some (.lst (Ts.map V.ref)) else if b ∈ Ts then pairOf h' b else none
  have g0 : ∀ b, b < s1.heap.objs.size → H2 b = H1 b := fun b hb => if_pos hb
  have gS : H2 h1.objs.size = some (.lst (Ts.map V.ref)) := by
    show (if h1.objs.size < s1.heap.objs.size then H1 h1.objs.size else if h1.objs.size = h1.objs.size then _ else _) = _
    rw [if_neg (by rw [hsz]; omega), if_pos rfl]
  have gT : ∀ (j : Nat) (T : Addr), Ts[j]? = some T → H2 T = pairOf h' T := fun j T hj => by
    have l1 := (pr j T hj).1
    show (if T < s1.heap.objs.size then H1 T else if T = h1.objs.size then _ else if T ∈ Ts then pairOf h' T else none) = _
    rw [if_neg (by rw [hsz] at l1; exact nlt_addN 5 l1), if_neg (Nat.ne_of_gt l1), if_pos (List.mem_of_getElem? hj)]
  have kept : ∀ b u, s1.heap.get? b = some u → h'.get? b = some u := fun b u e => by
    have hb := Heap.lt_size e
    exact jk b u (show b ≠ h1.objs.size by rw [hsz]; exact ne_addN 5 hb) (ne_addN 4 hb) (ne_addN 3 hb) (Nat.ne_of_lt hb) (ne_addN 1 hb) (hk b u e)
  have I2 : Inv X pins σ H2 { s1 with heap := h', toks := s1.toks } := inv_many I1 kept g0 fun b o hb e => by
    have e' : (if b = h1.objs.size then some (HO.lst (Ts.map V.ref)) else if b ∈ Ts then pairOf h' b else none) = some o := by
      have e0 : (if b < s1.heap.objs.size then H1 b else if b = h1.objs.size then some (HO.lst (Ts.map V.ref)) else if b ∈ Ts then pairOf h' b else none) = some o := e
      rw [if_neg (Nat.not_lt.mpr hb)] at e0
      exact e0
    by_cases hS : b = h1.objs.size
    · rw [if_pos hS] at e'
      cases e'
      subst hS
      refine ⟨by rw [List.length_map, hTl]; omega, Ts.map Value.ref, c, vals_refs' Ts, ?_⟩
      rw [← eacc, Array.toArray_toList]
      exact ls
    · rw [if_neg hS] at e'
      by_cases hm : b ∈ Ts
      · rw [if_pos hm] at e'
        obtain ⟨j, hj⟩ := List.getElem?_of_mem hm
        obtain ⟨_, x, y, u, v, _, _, ip, rx, ry⟩ := pr j b hj
        rw [pairOf_eq ip rx ry] at e'
        cases e'
        exact ⟨by show 2 ≤ sizeLine; decide, [u, v], .cons rx (.cons ry .nil), ⟨_, ip, rfl, _, rfl⟩⟩
      · rw [if_neg hm] at e'
        cases e'
  refine ⟨.ref h1.objs.size, H2, I2, rfl, q h1.objs.size Ts H2 (fun b o e => (g0 b (I1.hok.lt e)).trans e) (I1.hok.fresh (by rw [hsz]; omega)) hTl (fun j T hj => ?_) gS⟩
  obtain ⟨l1, x, y, u, v, hx, hy, ip, rx, ry⟩ := pr j T hj
  exact ⟨I1.hok.fresh (by rw [hsz] at l1; exact le_addN 5 l1), x, y, hx, hy, (gT j T hj).trans (pairOf_eq ip rx ry)⟩
end K68
/-! the text by places; what the top must have left -/
namespace K68
open PySem PySem.Spec PyProof.Rows L2 TL
def top (i : Nat) : Stmt := PySem.Challenge.pw_ownlog_k68_whole_order_is_kept.main.body.getD i (.Pass ⟨0, 0, 0, 0⟩)
abbrev s_is_integer : Stmt := top 9
abbrev n_is_integer : List Str := ["thing"]
abbrev p_is_integer : List Str := ["thing"]
theorem sc_is_integer : FnScope n_is_integer p_is_integer (defScope s_is_integer) := ⟨rfl, rfl, rfl, by decide +kernel, rfl, by decide +kernel, by decide +kernel⟩
abbrev s_is_between : Stmt := top 10
abbrev n_is_between : List Str := ["thing", "least", "greatest"]
abbrev p_is_between : List Str := ["thing", "least", "greatest"]
theorem sc_is_between : FnScope n_is_between p_is_between (defScope s_is_between) := ⟨rfl, rfl, rfl, by decide +kernel, rfl, by decide +kernel, by decide +kernel⟩
abbrev s_is_text : Stmt := top 11
abbrev n_is_text : List Str := ["thing", "most", "letter"]
abbrev p_is_text : List Str := ["thing", "most"]
theorem sc_is_text : FnScope n_is_text p_is_text (defScope s_is_text) := ⟨rfl, rfl, rfl, by decide +kernel, rfl, by decide +kernel, by decide +kernel⟩
abbrev s_is_row : Stmt := top 12
abbrev n_is_row : List Str := ["thing"]
abbrev p_is_row : List Str := ["thing"]
theorem sc_is_row : FnScope n_is_row p_is_row (defScope s_is_row) := ⟨rfl, rfl, rfl, by decide +kernel, rfl, by decide +kernel, by decide +kernel⟩
abbrev s_is_story : Stmt := top 13
abbrev n_is_story : List Str := ["last", "thing", "place"]
abbrev p_is_story : List Str := ["last", "thing"]
theorem sc_is_story : FnScope n_is_story p_is_story (defScope s_is_story) := ⟨rfl, rfl, rfl, by decide +kernel, rfl, by decide +kernel, by decide +kernel⟩
abbrev s_shown : Stmt := top 15
abbrev n_shown : List Str := ["last", "called", "place"]
abbrev p_shown : List Str := ["last", "called", "place"]
theorem sc_shown : FnScope n_shown p_shown (defScope s_shown) := ⟨rfl, rfl, rfl, by decide +kernel, rfl, by decide +kernel, by decide +kernel⟩
abbrev s_f_init : Stmt := inClass (top 17) 0
abbrev n_f_init : List Str := ["self", "row", "story"]
abbrev p_f_init : List Str := ["self", "row", "story"]
theorem sc_f_init : FnScope n_f_init p_f_init (defScope s_f_init) := ⟨rfl, rfl, rfl, by decide +kernel, rfl, by decide +kernel, by decide +kernel⟩
abbrev s_f_lasts : Stmt := inClass (top 17) 3
abbrev n_f_lasts : List Str := ["self", "found", "called"]
abbrev p_f_lasts : List Str := ["self"]
theorem sc_f_lasts : FnScope n_f_lasts p_f_lasts (defScope s_f_lasts) := ⟨rfl, rfl, rfl, by decide +kernel, rfl, by decide +kernel, by decide +kernel⟩
abbrev s_f_length : Stmt := inClass (top 17) 4
abbrev n_f_length : List Str := ["self"]
abbrev p_f_length : List Str := ["self"]
theorem sc_f_length : FnScope n_f_length p_f_length (defScope s_f_length) := ⟨rfl, rfl, rfl, by decide +kernel, rfl, by decide +kernel, by decide +kernel⟩
abbrev s_f_check : Stmt := inClass (top 17) 5
abbrev n_f_check : List Str := ["self", "place"]
abbrev p_f_check : List Str := ["self", "place"]
theorem sc_f_check : FnScope n_f_check p_f_check (defScope s_f_check) := ⟨rfl, rfl, rfl, by decide +kernel, rfl, by decide +kernel, by decide +kernel⟩
abbrev s_f_origins : Stmt := inClass (top 17) 6
abbrev n_f_origins : List Str := ["self", "place", "found", "last", "called"]
abbrev p_f_origins : List Str := ["self", "place"]
theorem sc_f_origins : FnScope n_f_origins p_f_origins (defScope s_f_origins) := ⟨rfl, rfl, rfl, by decide +kernel, rfl, by decide +kernel, by decide +kernel⟩
abbrev s_f_letter : Stmt := inClass (top 17) 7
abbrev n_f_letter : List Str := ["self", "place"]
abbrev p_f_letter : List Str := ["self", "place"]
theorem sc_f_letter : FnScope n_f_letter p_f_letter (defScope s_f_letter) := ⟨rfl, rfl, rfl, by decide +kernel, rfl, by decide +kernel, by decide +kernel⟩
abbrev s_f_called : Stmt := inClass (top 17) 9
abbrev n_f_called : List Str := ["self", "found", "index", "place"]
abbrev p_f_called : List Str := ["self"]
theorem sc_f_called : FnScope n_f_called p_f_called (defScope s_f_called) := ⟨rfl, rfl, rfl, by decide +kernel, rfl, by decide +kernel, by decide +kernel⟩
abbrev s_places_apart : Stmt := top 19
abbrev n_places_apart : List Str := ["row", "other", "place"]
abbrev p_places_apart : List Str := ["row", "other"]
theorem sc_places_apart : FnScope n_places_apart p_places_apart (defScope s_places_apart) := ⟨rfl, rfl, rfl, by decide +kernel, rfl, by decide +kernel, by decide +kernel⟩
abbrev s_first_difference : Stmt := top 20
abbrev n_first_difference : List Str := ["row", "other", "story", "found", "place"]
abbrev p_first_difference : List Str := ["row", "other", "story"]
theorem sc_first_difference : FnScope n_first_difference p_first_difference (defScope s_first_difference) := ⟨rfl, rfl, rfl, by decide +kernel, rfl, by decide +kernel, by decide +kernel⟩
abbrev s_last_difference : Stmt := top 21
abbrev n_last_difference : List Str := ["row", "other", "story", "found", "last", "place"]
abbrev p_last_difference : List Str := ["row", "other", "story"]
theorem sc_last_difference : FnScope n_last_difference p_last_difference (defScope s_last_difference) := ⟨rfl, rfl, rfl, by decide +kernel, rfl, by decide +kernel, by decide +kernel⟩
abbrev s_differences : Stmt := top 22
abbrev n_differences : List Str := ["row", "other", "story", "many", "first", "second"]
abbrev p_differences : List Str := ["row", "other", "story"]
theorem sc_differences : FnScope n_differences p_differences (defScope s_differences) := ⟨rfl, rfl, rfl, by decide +kernel, rfl, by decide +kernel, by decide +kernel⟩
abbrev s_l_bag : Stmt := top 24
abbrev n_l_bag : List Str := ["_law_script", "_law_cell"]
abbrev p_l_bag : List Str := ["_law_script"]
theorem sc_l_bag : FnScope n_l_bag p_l_bag (defScope s_l_bag) := ⟨rfl, rfl, rfl, by decide +kernel, rfl, by decide +kernel, by decide +kernel⟩
abbrev s_l_take : Stmt := top 25
abbrev n_l_take : List Str := ["_law_bag_here", "_law_many", "_law_cell", "_law_value", "_law_first", "_law_second"]
abbrev p_l_take : List Str := ["_law_bag_here", "_law_many"]
theorem sc_l_take : FnScope n_l_take p_l_take (defScope s_l_take) := ⟨rfl, rfl, rfl, by decide +kernel, rfl, by decide +kernel, by decide +kernel⟩
abbrev s_l_any_word : Stmt := top 27
abbrev n_l_any_word : List Str := ["_law_bag_here", "_law_most", "_law_start", "_law_few", "_law_letters", "_law_way", "_law_size", "_law_many", "_law_word", "_law_k"]
abbrev p_l_any_word : List Str := ["_law_bag_here", "_law_most"]
theorem sc_l_any_word : FnScope n_l_any_word p_l_any_word (defScope s_l_any_word) := ⟨rfl, rfl, rfl, by decide +kernel, rfl, by decide +kernel, by decide +kernel⟩
abbrev s_l_row : Stmt := top 28
abbrev n_l_row : List Str := ["_law_bag_here", "_law_most", "_law_text", "_law_way", "_law_turn", "_law_letter"]
abbrev p_l_row : List Str := ["_law_bag_here", "_law_most"]
theorem sc_l_row : FnScope n_l_row p_l_row (defScope s_l_row) := ⟨rfl, rfl, rfl, by decide +kernel, rfl, by decide +kernel, by decide +kernel⟩
abbrev s_l_called : Stmt := top 29
abbrev n_l_called : List Str := ["_law_row_here", "_law_place", "_law_ahead", "_law_behind"]
abbrev p_l_called : List Str := ["_law_row_here", "_law_place"]
theorem sc_l_called : FnScope n_l_called p_l_called (defScope s_l_called) := ⟨rfl, rfl, rfl, by decide +kernel, rfl, by decide +kernel, by decide +kernel⟩
abbrev s_l_written : Stmt := top 30
abbrev n_l_written : List Str := ["_law_row_here", "_law_story_here", "_law_place"]
abbrev p_l_written : List Str := ["_law_row_here", "_law_story_here"]
theorem sc_l_written : FnScope n_l_written p_l_written (defScope s_l_written) := ⟨rfl, rfl, rfl, by decide +kernel, rfl, by decide +kernel, by decide +kernel⟩
abbrev s_l_story : Stmt := top 31
abbrev n_l_story : List Str := ["_law_bag_here", "_law_last", "_law_calls", "_law_found", "_law_k", "_law_again", "_law_some"]
abbrev p_l_story : List Str := ["_law_bag_here", "_law_last", "_law_calls"]
theorem sc_l_story : FnScope n_l_story p_l_story (defScope s_l_story) := ⟨rfl, rfl, rfl, by decide +kernel, rfl, by decide +kernel, by decide +kernel⟩
abbrev s_l_from : Stmt := top 32
abbrev n_l_from : List Str := ["_law_row_here", "_law_story_here", "_law_place", "_law_lasts", "_law_one", "_law_k"]
abbrev p_l_from : List Str := ["_law_row_here", "_law_story_here", "_law_place"]
theorem sc_l_from : FnScope n_l_from p_l_from (defScope s_l_from) := ⟨rfl, rfl, rfl, by decide +kernel, rfl, by decide +kernel, by decide +kernel⟩
abbrev s_l_other : Stmt := top 33
abbrev n_l_other : List Str := ["_law_bag_here", "_law_row_here", "_law_found", "_law_k", "_law_at", "_law_letter"]
abbrev p_l_other : List Str := ["_law_bag_here", "_law_row_here"]
theorem sc_l_other : FnScope n_l_other p_l_other (defScope s_l_other) := ⟨rfl, rfl, rfl, by decide +kernel, rfl, by decide +kernel, by decide +kernel⟩
abbrev s_l_number : Stmt := top 34
abbrev n_l_number : List Str := ["_law_row_here", "_law_other_here", "_law_story_here", "_law_found", "_law_k", "_law_apart", "_law_place"]
abbrev p_l_number : List Str := ["_law_row_here", "_law_other_here", "_law_story_here"]
theorem sc_l_number : FnScope n_l_number p_l_number (defScope s_l_number) := ⟨rfl, rfl, rfl, by decide +kernel, rfl, by decide +kernel, by decide +kernel⟩
abbrev s_l_equal : Stmt := top 35
abbrev n_l_equal : List Str := ["_law_row_here", "_law_other_here", "_law_story_here", "_law_place"]
abbrev p_l_equal : List Str := ["_law_row_here", "_law_other_here", "_law_story_here", "_law_place"]
theorem sc_l_equal : FnScope n_l_equal p_l_equal (defScope s_l_equal) := ⟨rfl, rfl, rfl, by decide +kernel, rfl, by decide +kernel, by decide +kernel⟩
abbrev s_l_far_right : Stmt := top 36
abbrev n_l_far_right : List Str := ["_law_bag_here", "_law_row_here", "_law_other_here", "_law_story_here", "_law_first", "_law_last", "_law_size", "_law_one", "_law_two", "_law_k", "_law_place"]
abbrev p_l_far_right : List Str := ["_law_bag_here", "_law_row_here", "_law_other_here", "_law_story_here"]
theorem sc_l_far_right : FnScope n_l_far_right p_l_far_right (defScope s_l_far_right) := ⟨rfl, rfl, rfl, by decide +kernel, rfl, by decide +kernel, by decide +kernel⟩
abbrev s_law : Stmt := top 37
abbrev n_law : List Str := ["_law_script", "_law_bag_here", "_law_row_here", "_law_other_here", "_law_times", "_law_story_here", "_law_short", "_law_one", "_law_two", "_law_k", "_law_place"]
abbrev p_law : List Str := ["_law_script"]
theorem sc_law : FnScope n_law p_law (defScope s_law) := ⟨rfl, rfl, rfl, by decide +kernel, rfl, by decide +kernel, by decide +kernel⟩
structure Ad where
  C : Addr
  (tL tM tC : Tok)
  is_integer : Addr × FuncData
  is_between : Addr × FuncData
  is_text : Addr × FuncData
  is_row : Addr × FuncData
  is_story : Addr × FuncData
  shown : Addr × FuncData
  f_init : Addr × FuncData
  f_lasts : Addr × FuncData
  f_length : Addr × FuncData
  f_check : Addr × FuncData
  f_origins : Addr × FuncData
  f_letter : Addr × FuncData
  f_called : Addr × FuncData
  places_apart : Addr × FuncData
  first_difference : Addr × FuncData
  last_difference : Addr × FuncData
  differences : Addr × FuncData
  l_bag : Addr × FuncData
  l_take : Addr × FuncData
  l_any_word : Addr × FuncData
  l_row : Addr × FuncData
  l_called : Addr × FuncData
  l_written : Addr × FuncData
  l_story : Addr × FuncData
  l_from : Addr × FuncData
  l_other : Addr × FuncData
  l_number : Addr × FuncData
  l_equal : Addr × FuncData
  l_far_right : Addr × FuncData
  law : Addr × FuncData
structure Tx (K : PySem.W.Frag) (mg : Str → Option Value) (a : Ad) : Prop where
  F_is_integer : Fun K "is_integer" "is_integer" s_is_integer a.is_integer.1 a.is_integer.2
  b_is_integer : Binds K a.is_integer.2 p_is_integer []
  g_is_integer : mg "is_integer" = some (.ref a.is_integer.1)
  F_is_between : Fun K "is_between" "is_between" s_is_between a.is_between.1 a.is_between.2
  b_is_between : Binds K a.is_between.2 p_is_between []
  g_is_between : mg "is_between" = some (.ref a.is_between.1)
  F_is_text : Fun K "is_text" "is_text" s_is_text a.is_text.1 a.is_text.2
  b_is_text : Binds K a.is_text.2 p_is_text []
  g_is_text : mg "is_text" = some (.ref a.is_text.1)
  F_is_row : Fun K "is_row" "is_row" s_is_row a.is_row.1 a.is_row.2
  b_is_row : Binds K a.is_row.2 p_is_row []
  g_is_row : mg "is_row" = some (.ref a.is_row.1)
  F_is_story : Fun K "is_story" "is_story" s_is_story a.is_story.1 a.is_story.2
  b_is_story : Binds K a.is_story.2 p_is_story []
  g_is_story : mg "is_story" = some (.ref a.is_story.1)
  F_shown : Fun K "shown" "shown" s_shown a.shown.1 a.shown.2
  b_shown : Binds K a.shown.2 p_shown []
  g_shown : mg "shown" = some (.ref a.shown.1)
  F_f_init : Fun K "__init__" "Far.__init__" s_f_init a.f_init.1 a.f_init.2
  b_f_init : Binds K a.f_init.2 p_f_init []
  F_f_lasts : Fun K "lasts" "Far.lasts" s_f_lasts a.f_lasts.1 a.f_lasts.2
  b_f_lasts : Binds K a.f_lasts.2 p_f_lasts []
  m_f_lasts : Meth K a.C "lasts" a.f_lasts.1
  F_f_length : Fun K "length" "Far.length" s_f_length a.f_length.1 a.f_length.2
  b_f_length : Binds K a.f_length.2 p_f_length []
  m_f_length : Meth K a.C "length" a.f_length.1
  F_f_check : Fun K "check" "Far.check" s_f_check a.f_check.1 a.f_check.2
  b_f_check : Binds K a.f_check.2 p_f_check []
  m_f_check : Meth K a.C "check" a.f_check.1
  F_f_origins : Fun K "origins" "Far.origins" s_f_origins a.f_origins.1 a.f_origins.2
  b_f_origins : Binds K a.f_origins.2 p_f_origins []
  m_f_origins : Meth K a.C "origins" a.f_origins.1
  F_f_letter : Fun K "letter" "Far.letter" s_f_letter a.f_letter.1 a.f_letter.2
  b_f_letter : Binds K a.f_letter.2 p_f_letter []
  m_f_letter : Meth K a.C "letter" a.f_letter.1
  F_f_called : Fun K "called" "Far.called" s_f_called a.f_called.1 a.f_called.2
  b_f_called : Binds K a.f_called.2 p_f_called []
  m_f_called : Meth K a.C "called" a.f_called.1
  F_places_apart : Fun K "places_apart" "places_apart" s_places_apart a.places_apart.1 a.places_apart.2
  b_places_apart : Binds K a.places_apart.2 p_places_apart []
  g_places_apart : mg "places_apart" = some (.ref a.places_apart.1)
  F_first_difference : Fun K "first_difference" "first_difference" s_first_difference a.first_difference.1 a.first_difference.2
  b_first_difference : Binds K a.first_difference.2 p_first_difference []
  g_first_difference : mg "first_difference" = some (.ref a.first_difference.1)
  F_last_difference : Fun K "last_difference" "last_difference" s_last_difference a.last_difference.1 a.last_difference.2
  b_last_difference : Binds K a.last_difference.2 p_last_difference []
  g_last_difference : mg "last_difference" = some (.ref a.last_difference.1)
  F_differences : Fun K "differences" "differences" s_differences a.differences.1 a.differences.2
  b_differences : Binds K a.differences.2 p_differences []
  g_differences : mg "differences" = some (.ref a.differences.1)
  F_l_bag : Fun K "_law_bag" "_law_bag" s_l_bag a.l_bag.1 a.l_bag.2
  b_l_bag : Binds K a.l_bag.2 p_l_bag []
  g_l_bag : mg "_law_bag" = some (.ref a.l_bag.1)
  F_l_take : Fun K "_law_take" "_law_take" s_l_take a.l_take.1 a.l_take.2
  b_l_take : Binds K a.l_take.2 p_l_take []
  g_l_take : mg "_law_take" = some (.ref a.l_take.1)
  F_l_any_word : Fun K "_law_any_word" "_law_any_word" s_l_any_word a.l_any_word.1 a.l_any_word.2
  b_l_any_word : Binds K a.l_any_word.2 p_l_any_word []
  g_l_any_word : mg "_law_any_word" = some (.ref a.l_any_word.1)
  F_l_row : Fun K "_law_row" "_law_row" s_l_row a.l_row.1 a.l_row.2
  b_l_row : Binds K a.l_row.2 p_l_row []
  g_l_row : mg "_law_row" = some (.ref a.l_row.1)
  F_l_called : Fun K "_law_called" "_law_called" s_l_called a.l_called.1 a.l_called.2
  b_l_called : Binds K a.l_called.2 p_l_called []
  g_l_called : mg "_law_called" = some (.ref a.l_called.1)
  F_l_written : Fun K "_law_written" "_law_written" s_l_written a.l_written.1 a.l_written.2
  b_l_written : Binds K a.l_written.2 p_l_written []
  g_l_written : mg "_law_written" = some (.ref a.l_written.1)
  F_l_story : Fun K "_law_story" "_law_story" s_l_story a.l_story.1 a.l_story.2
  b_l_story : Binds K a.l_story.2 p_l_story []
  g_l_story : mg "_law_story" = some (.ref a.l_story.1)
  F_l_from : Fun K "_law_from" "_law_from" s_l_from a.l_from.1 a.l_from.2
  b_l_from : Binds K a.l_from.2 p_l_from []
  g_l_from : mg "_law_from" = some (.ref a.l_from.1)
  F_l_other : Fun K "_law_other" "_law_other" s_l_other a.l_other.1 a.l_other.2
  b_l_other : Binds K a.l_other.2 p_l_other []
  g_l_other : mg "_law_other" = some (.ref a.l_other.1)
  F_l_number : Fun K "_law_number" "_law_number" s_l_number a.l_number.1 a.l_number.2
  b_l_number : Binds K a.l_number.2 p_l_number []
  g_l_number : mg "_law_number" = some (.ref a.l_number.1)
  F_l_equal : Fun K "_law_equal" "_law_equal" s_l_equal a.l_equal.1 a.l_equal.2
  b_l_equal : Binds K a.l_equal.2 p_l_equal []
  g_l_equal : mg "_law_equal" = some (.ref a.l_equal.1)
  F_l_far_right : Fun K "_law_far_right" "_law_far_right" s_l_far_right a.l_far_right.1 a.l_far_right.2
  b_l_far_right : Binds K a.l_far_right.2 p_l_far_right []
  g_l_far_right : mg "_law_far_right" = some (.ref a.l_far_right.1)
  F_law : Fun K "law" "law" s_law a.law.1 a.law.2
  b_law : Binds K a.law.2 p_law []
  g_law : mg "law" = some (.ref a.law.1)
  cl : Cls K a.C
  nRow : NoAttr K a.C "its_row"
  nSto : NoAttr K a.C "its_story"
  g_Far : mg "Far" = some (.ref a.C)
  mkFar : Mk K a.C a.f_init.1
  g_LETTERS : mg "LETTERS" = some (.str "abcdefghijklmnopqrstuvwxyz" a.tL)
  g_MOST_LETTERS : mg "MOST_LETTERS" = some (.int 1000 a.tM)
  g_MOST_CALLS : mg "MOST_CALLS" = some (.int 64 a.tC)
  z_len : mg "len" = none
  z_isinstance : mg "isinstance" = none
  z_int : mg "int" = none
  z_bool : mg "bool" = none
  z_str : mg "str" = none
  z_list : mg "list" = none
  z_zip : mg "zip" = none
  z_range : mg "range" = none
  z_enumerate : mg "enumerate" = none
  z_abs : mg "abs" = none
  z_all : mg "all" = none
end K68
/-! promises; steps of a reading -/
namespace K68
open PySem PySem.Spec PyProof.Rows L2 TL
/-! ### data -/
def cI (cs : List Nat) : List V := cs.map fun n => V.int ((n : Nat) : Int)
theorem cI_len (cs : List Nat) : (cI cs).length = cs.length := List.length_map ..
theorem cI_at {cs : List Nat} {i c : Nat} (h : cs[i]? = some c) : (cI cs)[i]? = some (.int ((c : Nat) : Int)) := by
  unfold cI
  rw [List.getElem?_map, h]
  rfl
theorem of_cI {cs : List Nat} {i : Nat} {v : V} (h : (cI cs)[i]? = some v) : ∃ c, cs[i]? = some c ∧ v = .int ((c : Nat) : Int) := by
  unfold cI at h
  rw [List.getElem?_map] at h
  cases e : cs[i]? with
  | none => rw [e] at h; cases h
  | some c => rw [e] at h; exact ⟨c, rfl, (Option.some.inj h).symm⟩
theorem cI_app (cs : List Nat) (c : Nat) : cI (cs ++ [c]) = cI cs ++ [.int ((c : Nat) : Int)] := by
  unfold cI
  rw [List.map_append]
  rfl
theorem cI_take (cs : List Nat) (k : Nat) : cI (cs.take k) = (cI cs).take k := List.map_take ..
def Low (z : Str) : Prop := ∀ c ∈ tl z, 97 ≤ c ∧ c ≤ 122
def Row (z : Str) : Prop := 2 ≤ z.length ∧ z.length ≤ 1000 ∧ Low z
theorem Row.tl_len {z : Str} (h : Row z) : (tl z).length = z.length := (len_tl z).symm
theorem Row.fits {z : Str} (h : Row z) : z.length ≤ sizeLine := Nat.le_trans h.2.1 (by decide)
/-- one sign -/
abbrev sg (c : Nat) : Str := ⟨#[c]⟩
/-! ### an instance of Far -/
theorem rs_ : ¬ (("its_row" : Str) = "its_story") := by decide +kernel
theorem sr_ : ¬ (("its_story" : Str) = "its_row") := by decide +kernel
def ff (z : Str) (l : Addr) : List (Str × V) := putF "its_story" (.ref l) (putF "its_row" (.str z) [])
theorem ff_len (z : Str) (l : Addr) : (ff z l).length = 2 := by
  unfold ff
  show (if ("its_row" : Str) = "its_story" then [(("its_row" : Str), V.ref l)] else (("its_row" : Str), V.str z) :: putF "its_story" (V.ref l) []).length = 2
  rw [if_neg rs_]
  rfl
theorem ff_row (z : Str) (l : Addr) : (ff z l).lookup ("its_row" : Str) = some (.str z) := by
  unfold ff
  rw [lookup_putF, if_neg rs_, lookup_putF, if_pos rfl]
theorem ff_sto (z : Str) (l : Addr) : (ff z l).lookup ("its_story" : Str) = some (.ref l) := by
  unfold ff
  rw [lookup_putF, if_pos rfl]
theorem ff_no (z : Str) (l : Addr) {m : Str} (h1 : ¬ m = "its_story") (h2 : ¬ m = "its_row") : (ff z l).lookup m = none := by
  unfold ff
  rw [lookup_putF, if_neg h1, lookup_putF, if_neg h2]
  rfl
structure FarAt (C : Addr) (H : Hp) (p dx l : Addr) (z : Str) (cs : List Nat) : Prop where
  ob : H p = some (.ins C dx (ff z l))
  st : H l = some (.lst (cI cs))
  row : Row z
  n : cs.length ≤ 64
  ok : okS (z.length - 1) cs
theorem FarAt.same {C : Addr} {H H' : Hp} {p dx l : Addr} {z : Str} {cs : List Nat} (F : FarAt C H p dx l z cs) (s : Same H H') : FarAt C H' p dx l z cs := ⟨s _ _ F.ob, s _ _ F.st, F.row, F.n, F.ok⟩
/-! ### the bag -/
structure BagW (H : Hp) (b : Addr) (h m i : Int) (c : Addr) (ns : List Int) : Prop where
  ob : H b = some (.lst [.int h, .int m, .int i, .ref c])
  cells : H c = some (.lst (ns.map V.int))
  i0 : 0 ≤ i
def Bag (H : Hp) (b : Addr) : Prop := ∃ h m i c ns, BagW H b h m i c ns
/-- all but b as it was, b a bag again -/
structure Rel (b : Addr) (H H' : Hp) : Prop where
  kp : ∀ a o, H a = some o → a ≠ b → H' a = some o
  bag : Bag H' b
  cc : ∀ h m i c ns, BagW H b h m i c ns → ∃ h' m' i', BagW H' b h' m' i' c ns
theorem BagW.same {H H' : Hp} {b : Addr} {h m i : Int} {c : Addr} {ns : List Int} (W : BagW H b h m i c ns) (s : Same H H') : BagW H' b h m i c ns := ⟨s _ _ W.ob, s _ _ W.cells, W.i0⟩
theorem Bag.there {H : Hp} {b : Addr} (B : Bag H b) : ∃ o, H b = some o := by
  obtain ⟨h, m, i, c, ns, W⟩ := B
  exact ⟨_, W.ob⟩
theorem Rel.refl {H : Hp} {b : Addr} (B : Bag H b) : Rel b H H := ⟨fun _ _ e _ => e, B, fun _ _ _ _ _ W => ⟨_, _, _, W⟩⟩
theorem Rel.trans {H H1 H2 : Hp} {b : Addr} (x : Rel b H H1) (y : Rel b H1 H2) : Rel b H H2 := ⟨fun a o e n => y.kp a o (x.kp a o e n) n, y.bag, fun _ _ _ _ _ W => by
  obtain ⟨_, _, _, W1⟩ := x.cc _ _ _ _ _ W
  exact y.cc _ _ _ _ _ W1⟩
theorem Bag.ne {H : Hp} {a b : Addr} {cs : List Nat} (B : Bag H b) (h : H a = some (.lst (cI cs))) : a ≠ b := fun e => by
  obtain ⟨h0, m, i, c, ns, W⟩ := B
  subst e
  have q := W.ob
  rw [h] at q
  have q2 : (cI cs)[3]? = some (.ref c) := by rw [(HO.lst.inj (Option.some.inj q))]; rfl
  obtain ⟨d, _, q3⟩ := of_cI q2
  cases q3
theorem BagW.ne {H : Hp} {b : Addr} {h m i : Int} {c : Addr} {ns : List Int} (W : BagW H b h m i c ns) : c ≠ b := fun e => by
  have q := W.ob
  rw [← e, W.cells] at q
  have q2 : (ns.map V.int)[3]? = some (.ref c) := by rw [(HO.lst.inj (Option.some.inj q))]; rfl
  rw [List.getElem?_map] at q2
  cases e2 : ns[3]? with
  | none => rw [e2] at q2; cases q2
  | some d => rw [e2] at q2; cases q2
theorem Bag.same {H H' : Hp} {b : Addr} (B : Bag H b) (s : Same H H') : Bag H' b := by
  obtain ⟨h, m, i, c, ns, W⟩ := B
  exact ⟨h, m, i, c, ns, s _ _ W.ob, s _ _ W.cells, W.i0⟩
theorem Rel.same {H H1 H2 : Hp} {b : Addr} (x : Rel b H H1) (s : Same H1 H2) : Rel b H H2 := ⟨fun a o e n => s _ _ (x.kp a o e n), x.bag.same s, fun _ _ _ _ _ W => by
  obtain ⟨_, _, _, W1⟩ := x.cc _ _ _ _ _ W
  exact ⟨_, _, _, W1.same s⟩⟩
theorem Rel.of_same {H H1 : Hp} {b : Addr} (B : Bag H b) (s : Same H H1) : Rel b H H1 := ⟨fun a o e _ => s _ _ e, B.same s, fun _ _ _ _ _ W => ⟨_, _, _, W.same s⟩⟩
/-- what is free behind is free before -/
theorem Rel.free {H H' : Hp} {b l : Addr} (x : Rel b H H') (h : H' l = none) : H l = none := by
  cases q : H l with
  | none => rfl
  | some o =>
    by_cases e : l = b
    · obtain ⟨o', e'⟩ := x.bag.there
      rw [← e, h] at e'
      cases e'
    · rw [x.kp l o q e] at h
      cases h
theorem same_new {H : Hp} {p : Addr} {o : HO} (h : H p = none) : Same H (upd H p o) := fun b x e => by
  rw [upd_ne (ne_of_none e h)]
  exact e
/-! ### the alphabet -/
abbrev abc : Str := "abcdefghijklmnopqrstuvwxyz"
theorem abc_tl : tl abc = List.range' 97 26 := by decide +kernel
theorem abc_len : abc.length = 26 := by rw [len_tl, abc_tl]; rfl
theorem mem_abc {c : Nat} : c ∈ abc.cps.toList ↔ 97 ≤ c ∧ c ≤ 122 := by
  show c ∈ tl abc ↔ _
  rw [abc_tl, List.mem_range'_1]
  omega
theorem sub1 {n : Nat} (h : 1 ≤ n) : ((n : Int) - 1) = ((n - 1 : Nat) : Int) := by omega
theorem letN_def (z : Str) (cs : List Nat) (x : Nat) : letN (tl z) cs x = (tl z).getD (orig (z.length - 1) cs x) 0 := by
  rw [len_tl]
  rfl
theorem letN_at {z : Str} {cs : List Nat} {x : Nat} (h1 : 1 ≤ z.length) (ok : okS (z.length - 1) cs) (hx : x ≤ lastN (z.length - 1) cs) : (tl z)[orig (z.length - 1) cs x]? = some (letN (tl z) cs x) := by
  have h := orig_le cs _ _ ok hx
  have hl : orig (z.length - 1) cs x < (tl z).length := by rw [← len_tl]; omega
  rw [letN_def, List.getD_eq_getElem?_getD, List.getElem?_eq_getElem hl]
  rfl
theorem cut_to (cs : List Nat) (i : Nat) : cutV (cI cs) none (some ((i : Nat) : Int)) = cI (cs.take i) := by
  unfold cutV
  rw [HT.sIx_none, HT.sIx_nat, List.drop_zero, Nat.sub_zero, cI_take, cI_len]
  by_cases h : i ≤ cs.length
  · rw [Nat.min_eq_left h]
  · rw [Nat.min_eq_right (by omega), List.take_of_length_le (by rw [cI_len]; omega), List.take_of_length_le (by rw [cI_len]; omega)]
theorem sg_eq {c d : Nat} : V.str (sg c) = V.str (sg d) ↔ c = d := by
  constructor
  · intro h
    have h1 : sg c = sg d := V.str.inj h
    have h2 : tl (sg c) = tl (sg d) := congrArg tl h1
    have h3 : ([c] : List Nat) = [d] := h2
    simpa using h3
  · rintro rfl
    rfl
theorem tl_at {z : Str} {i : Nat} (h : i < z.length) : (tl z)[i]? = some ((tl z).getD i 0) := by
  have hl : i < (tl z).length := by rw [← len_tl]; exact h
  rw [List.getD_eq_getElem?_getD, List.getElem?_eq_getElem hl]
  rfl
abbrev sgs (l : List Nat) : List V := l.map fun c => V.str (sg c)
theorem sgs_snoc (l : List Nat) (c : Nat) : sgs (l ++ [c]) = sgs l ++ [V.str (sg c)] := List.map_append
theorem sgs_eq (l : List Nat) : sgs l = (l.map sg).map V.str := by rw [List.map_map]; rfl
theorem join_sg (e : Str) (he : tl e = []) (l : List Nat) : tl (Txt.join e (l.map sg)) = l := by
  rw [join_eq, tl_join, he, List.map_map]
  induction l with
  | nil => rfl
  | cons c r ih =>
    cases r with
    | nil => rfl
    | cons d r =>
      show [c] ++ [] ++ joinL [] ((d :: r).map (tl ∘ sg)) = c :: d :: r
      rw [ih]
      rfl
theorem join_size (e : Str) (he : tl e = []) (l : List Nat) (h : l.length ≤ 100000) : ((l.map sg).map (·.length)).sum + (l.map sg).length * e.length ≤ 16777216 := by
  have h0 : e.length = 0 := (len0_tl e).mpr he
  have h1 : ∀ l : List Nat, ((l.map sg).map (·.length)).sum = l.length := fun l => by
    induction l with
    | nil => rfl
    | cons c r ih =>
      rw [List.map_cons, List.map_cons, List.sum_cons, ih, List.length_cons]
      show 1 + r.length = r.length + 1
      omega
  rw [h1, h0, Nat.mul_zero]
  omega
theorem made_same {H H1 : Hp} {x dx C : Addr} (nx : H x = none) (nd : H dx = none) (k : ∀ b o, (upd (upd H dx (.own x)) x (.ins C dx [])) b = some o → b ≠ x → H1 b = some o) : Same H H1 := Same.made nx nd k
/-! ### the promises -/
def sp_is_integer : Sp := fun vs H Q _ => ∃ i, vs = [.int i] ∧ Q (.bl true) H
def sp_is_between : Sp := fun vs H Q _ => ∃ i a b, vs = [.int i, .int a, .int b] ∧ a ≤ i ∧ i ≤ b ∧ Q (.bl true) H
def sp_is_text : Sp := fun vs H Q _ => ∃ z m, vs = [.str z, .int m] ∧ 1 ≤ z.length ∧ (z.length : Int) ≤ m ∧ z.length ≤ 1000 ∧ Low z ∧ ∀ H', Same H H' → Q (.bl true) H'
def sp_is_row : Sp := fun vs H Q _ => ∃ z, vs = [.str z] ∧ Row z ∧ ∀ H', Same H H' → Q (.bl true) H'
def sp_is_story : Sp := fun vs H Q _ => ∃ (L : Nat) (a : Addr) (cs : List Nat), vs = [.int L, .ref a] ∧ H a = some (.lst (cI cs)) ∧ cs.length ≤ 64 ∧ okS L cs ∧ Q (.bl true) H
def sp_shown : Sp := fun vs H Q _ => ∃ L c p : Nat, vs = [.int L, .int c, .int p] ∧ Q (.int (shN L c p : Nat)) H
def sp_f_init (C : Addr) : Sp := fun vs H Q _ => ∃ (p dx a : Addr) (z : Str) (cs : List Nat), vs = [.ref p, .str z, .ref a] ∧ H p = some (.ins C dx []) ∧ Row z ∧ H a = some (.lst (cI cs)) ∧ cs.length ≤ 64 ∧ okS (z.length - 1) cs ∧
  ∀ (H' : Hp) (l : Addr), (∀ b o, H b = some o → b ≠ p → H' b = some o) → FarAt C H' p dx l z cs → Q .non H'
def sp_f_lasts (C : Addr) : Sp := fun vs H Q _ => ∃ (p dx l : Addr) (z : Str) (cs : List Nat), vs = [.ref p] ∧ FarAt C H p dx l z cs ∧ ∀ (H' : Hp) (r : Addr), Same H H' → H r = none → H' r = some (.lst (cI (lastsL (z.length - 1) cs))) → Q (.ref r) H'
def sp_f_length (C : Addr) : Sp := fun vs H Q _ => ∃ (p dx l : Addr) (z : Str) (cs : List Nat), vs = [.ref p] ∧ FarAt C H p dx l z cs ∧ ∀ H' : Hp, Same H H' → Q (.int ((lastN (z.length - 1) cs : Nat) + 1)) H'
def sp_f_check (C : Addr) : Sp := fun vs H Q _ => ∃ (p dx l : Addr) (z : Str) (cs : List Nat) (x : Nat), vs = [.ref p, .int x] ∧ FarAt C H p dx l z cs ∧ x ≤ lastN (z.length - 1) cs ∧ ∀ H' : Hp, Same H H' → Q .non H'
def sp_f_origins (C : Addr) : Sp := fun vs H Q _ => ∃ (p dx l : Addr) (z : Str) (cs : List Nat) (x : Nat), vs = [.ref p, .int x] ∧ FarAt C H p dx l z cs ∧ x ≤ lastN (z.length - 1) cs ∧
  ∀ (H' : Hp) (r : Addr) (ys : List V), Same H H' → H' r = some (.lst (ys ++ [.int (orig (z.length - 1) cs x : Nat)])) → Q (.ref r) H'
def sp_f_letter (C : Addr) : Sp := fun vs H Q _ => ∃ (p dx l : Addr) (z : Str) (cs : List Nat) (x : Nat), vs = [.ref p, .int x] ∧ FarAt C H p dx l z cs ∧ x ≤ lastN (z.length - 1) cs ∧ ∀ H' : Hp, Same H H' → Q (.str (sg (letN (tl z) cs x))) H'
/-- the called letters -/
def calledL (r cs : List Nat) (k : Nat) : List Nat := (List.range k).map fun i => letN r (cs.take i) (cs.getD i 0)
def sp_f_called (C : Addr) : Sp := fun vs H Q _ => ∃ (p dx l : Addr) (z : Str) (cs : List Nat), vs = [.ref p] ∧ FarAt C H p dx l z cs ∧ ∀ (H' : Hp) (u : Str), Same H H' → tl u = calledL (tl z) cs cs.length → Q (.str u) H'
def sp_places_apart : Sp := fun vs H Q _ => ∃ (z u : Str), vs = [.str z, .str u] ∧ z.length ≤ 1000 ∧ u.length = z.length ∧ ∀ (H' : Hp) (r : Addr), Same H H' → H r = none → H' r = some (.lst (cI (apart (tl z) (tl u) z.length))) → Q (.ref r) H'
def sp_first_difference : Sp := fun vs H Q _ => ∃ (z u : Str) (a : Addr) (cs : List Nat) (d : Nat), vs = [.str z, .str u, .ref a] ∧ z.length ≤ 1000 ∧ u.length = z.length ∧ H a = some (.lst (cI cs)) ∧ (apart (tl z) (tl u) z.length)[0]? = some d ∧
  ∀ H' : Hp, Same H H' → Q (.int (firstD d cs : Nat)) H'
def sp_last_difference : Sp := fun vs H Q _ => ∃ (z u : Str) (a : Addr) (cs ys : List Nat) (d : Nat), vs = [.str z, .str u, .ref a] ∧ 1 ≤ z.length ∧ z.length ≤ 1000 ∧ u.length = z.length ∧ H a = some (.lst (cI cs)) ∧ apart (tl z) (tl u) z.length = ys ++ [d] ∧
  ∀ H' : Hp, Same H H' → Q (.int (lastD d (z.length - 1) cs : Nat)) H'
def sp_differences : Sp := fun vs H Q _ => ∃ (z u : Str) (a : Addr) (cs : List Nat), vs = [.str z, .str u, .ref a] ∧ Row z ∧ Row u ∧ u.length = z.length ∧ H a = some (.lst (cI cs)) ∧ cs.length ≤ 64 ∧ okS (z.length - 1) cs ∧
  ∀ H' : Hp, Same H H' → Q (.int (numF (tl z) (tl u) cs cs.length)) H'
def sp_l_bag (K : PySem.W.Frag) : Sp := fun vs H Q _ => ∃ (a : Addr) (ns : List Int), vs = [.ref a] ∧ SqL K H a (ns.map V.int) ∧ ns.length ≤ 63 ∧ ∀ (H' : Hp) (b : Addr), Same H H' → H b = none → Bag H' b → Q (.ref b) H'
def sp_l_take : Sp := fun vs H Q _ => ∃ (b : Addr) (m : Int), vs = [.ref b, .int m] ∧ Bag H b ∧ 0 < m ∧ m < 2 ^ 200 ∧ ∀ (v : Int) (H' : Hp), 0 ≤ v → v < m → Rel b H H' → Q (.int v) H'
def sp_l_any_word : Sp := fun vs H Q _ => ∃ (b : Addr) (m : Nat), vs = [.ref b, .int m] ∧ Bag H b ∧ 1 ≤ m ∧ m ≤ 1000 ∧ ∀ (z : Str) (H' : Hp), 1 ≤ z.length → z.length ≤ m → Low z → Rel b H H' → Q (.str z) H'
def sp_l_row : Sp := fun vs H Q _ => ∃ (b : Addr) (m : Nat), vs = [.ref b, .int m] ∧ Bag H b ∧ 2 ≤ m ∧ m ≤ 1000 ∧ ∀ (z : Str) (H' : Hp), 2 ≤ z.length → z.length ≤ m → Low z → Rel b H H' → Q (.str z) H'
def sp_l_called : Sp := fun vs H Q _ => ∃ (z : Str) (p : Nat), vs = [.str z, .int p] ∧ p < z.length ∧ z.length ≤ 100000 ∧ ∀ u : Str, tl u = callL (tl z) p → Q (.str u) H
def sp_l_written : Sp := fun vs H Q _ => ∃ (z : Str) (a : Addr) (cs : List Nat), vs = [.str z, .ref a] ∧ H a = some (.lst (cI cs)) ∧ 1 ≤ z.length ∧ z.length ≤ 1000 ∧ cs.length ≤ 3 ∧ okS (z.length - 1) cs ∧ ∀ u : Str, tl u = writeL (tl z) cs → Q (.str u) H
def sp_l_story : Sp := fun vs H Q _ => ∃ (b : Addr) (L n : Nat), vs = [.ref b, .int L, .int n] ∧ Bag H b ∧ L ≤ 1000 ∧ n ≤ 64 ∧ ∀ (H' : Hp) (l : Addr) (cs : List Nat), Rel b H H' → H l = none → H' l = some (.lst (cI cs)) → cs.length = n → okS L cs → Q (.ref l) H'
def sp_l_from : Sp := fun vs H Q _ => ∃ (z : Str) (a : Addr) (cs : List Nat) (p : Nat), vs = [.str z, .ref a, .int p] ∧ 1 ≤ z.length ∧ z.length ≤ 1000 ∧ H a = some (.lst (cI cs)) ∧ cs.length ≤ 64 ∧ okS (z.length - 1) cs ∧ p ≤ lastN (z.length - 1) cs ∧
  ∀ H' : Hp, Same H H' → Q (.str (sg (letN (tl z) cs p))) H'
def sp_l_other : Sp := fun vs H Q _ => ∃ (b : Addr) (z : Str), vs = [.ref b, .str z] ∧ Bag H b ∧ Row z ∧ ∀ (H' : Hp) (u : Str), Rel b H H' → u.length = z.length → Low u → tl u ≠ tl z → Q (.str u) H'
def sp_l_number : Sp := fun vs H Q _ => ∃ (z u : Str) (a : Addr) (cs : List Nat), vs = [.str z, .str u, .ref a] ∧ Row z ∧ Row u ∧ u.length = z.length ∧ H a = some (.lst (cI cs)) ∧ cs.length ≤ 64 ∧ okS (z.length - 1) cs ∧
  ∀ H' : Hp, Same H H' → Q (.int (numF (tl z) (tl u) cs cs.length)) H'
def sp_l_equal : Sp := fun vs H Q _ => ∃ (z u : Str) (a : Addr) (cs : List Nat) (p : Nat), vs = [.str z, .str u, .ref a, .int p] ∧ 1 ≤ z.length ∧ z.length ≤ 1000 ∧ u.length = z.length ∧ H a = some (.lst (cI cs)) ∧ cs.length ≤ 64 ∧ okS (z.length - 1) cs ∧ p ≤ lastN (z.length - 1) cs ∧
  (letN (tl z) cs p = letN (tl u) cs p) ∧ ∀ H' : Hp, Same H H' → Q (.bl true) H'
def sp_l_far_right : Sp := fun vs H Q _ => ∃ (b a : Addr) (z u : Str) (cs : List Nat), vs = [.ref b, .str z, .str u, .ref a] ∧ Bag H b ∧ Row z ∧ Row u ∧ u.length = z.length ∧ tl u ≠ tl z ∧ H a = some (.lst (cI cs)) ∧ cs.length ≤ 64 ∧ okS (z.length - 1) cs ∧
  ∀ H' : Hp, Rel b H H' → Q (.bl true) H'
def sp_law (K : PySem.W.Frag) : Sp := fun vs H Q _ => ∃ (a : Addr) (ns : List Int), vs = [.ref a] ∧ SqL K H a (ns.map V.int) ∧ ns.length ≤ 63 ∧ ∀ H', Q (.bl true) H'
theorem calledL_succ (r cs : List Nat) (k : Nat) : calledL r cs (k + 1) = calledL r cs k ++ [letN r (cs.take k) (cs.getD k 0)] := by
  unfold calledL
  rw [List.range_succ, List.map_append]
  rfl
theorem calledL_len (r cs : List Nat) (k : Nat) : (calledL r cs k).length = k := by
  unfold calledL
  rw [List.length_map, List.length_range]
/-! ### steps -/
section
variable {σ : L2.St} {H : Hp} {Q : VK} {D : Ends} {ta tb te tx : TE} {t u c : TT} {tA : TA} {t1 t2 : TS} {x y v : V} {E : XK} {K : PySem.W.Frag}
theorem s_seq (h : t1 { D with nx := t2 D } σ H) : tSeq t1 t2 D σ H := h
theorem s_next (h : D.nx σ H) : tNext D σ H := h
theorem s_set {i : Nat} (h : te σ H fun v H1 => D.nx (σ.set i (some v)) H1) : tAsg te (gName i) D σ H := h
theorem s_asg {g : TG} (h : te σ H fun v H1 => g v σ H1 D.nx) : tAsg te g D σ H := h
theorem s_var {i : Nat} (e : σ[i]? = some (some v)) (h : Q v H) : tVar i σ H Q := ⟨v, e, h⟩
theorem s_c (h : Q v H) : tC v σ H Q := h
theorem s_op {r : R2} (h : ta σ H fun x H1 => tb σ H1 fun y H2 => r x y H2 Q) : tOp r ta tb σ H Q := h
theorem s_un {r : V → Hp → VK → Prop} (h : ta σ H fun x H1 => r x H1 Q) : tUn r ta σ H Q := h
theorem s_I0 {g : Int → Int → V} {i j : Int} (h : Q (g i j) H) : rI0 g (.int i) (.int j) H Q := ⟨i, j, rfl, rfl, h⟩
theorem s_I {C : Int → Int → Prop} {g : Int → Int → V} {i j : Int} (hc : C i j) (h : Q (g i j) H) : rI C g (.int i) (.int j) H Q := ⟨i, j, rfl, rfl, hc, h⟩
theorem s_U {g : Int → V} {i : Int} (h : Q (g i) H) : rU g (.int i) H Q := ⟨i, rfl, h⟩
theorem s_eq (hs : scal x y = true) (h : Q (.bl (decide (x = y))) H) : rEq x y H Q := ⟨hs, h⟩
theorem s_ne (hs : scal x y = true) (h : Q (.bl (!decide (x = y))) H) : rNe x y H Q := ⟨hs, h⟩
theorem s_if (h : c σ H fun b H1 => if b = true then t1 D σ H1 else t2 D σ H1) : tIfS c t1 t2 D σ H := h
theorem s_ifE (h : c σ H fun b H1 => if b = true then ta σ H1 Q else tb σ H1 Q) : tIf c ta tb σ H Q := h
theorem s_test {R : Bool → Hp → Prop} (h : te σ H fun x H' => ∃ k, x = .bl k ∧ R k H') : tTest te σ H R := h
theorem s_B {R : Bool → Hp → Prop} (h : te σ H fun x H' => ∃ k, x = .bl k ∧ R k H') : tB te σ H R := h
theorem s_chain {r r' : R2} {tc : TE} (h : ta σ H fun x H1 => tb σ H1 fun y H2 => r x y H2 fun z H3 => ∃ k, z = .bl k ∧ (if k = true then tc σ H3 fun w' H4 => r' y w' H4 Q else Q (.bl false) H3)) : tChain r r' ta tb tc σ H Q := h
theorem s_chain3 {r r' r'' : R2} {tc td : TE} (h : ta σ H fun x H1 => tb σ H1 fun y H2 => r x y H2 fun z H3 => ∃ k, z = .bl k ∧
  (if k = true then tc σ H3 fun y' H4 => r' y y' H4 fun z' H5 => ∃ k', z' = .bl k' ∧ (if k' = true then td σ H5 fun y'' H6 => r'' y' y'' H6 Q else Q (.bl false) H5) else Q (.bl false) H3)) : tChain3 r r' r'' ta tb tc td σ H Q := h
theorem s_meth {C : Addr} {m : Str} {sp : Sp} (h : ta σ H fun x H1 => ∃ a dx fs, x = .ref a ∧ H1 a = some (.ins C dx fs) ∧ fs.lookup m = none ∧ tA σ H1 fun vs H2 => sp (x :: (vs ++ [])) H2 Q E) : tMeth C m sp [] E ta tA σ H Q := h
theorem s_make {C : Addr} {sp : Sp} (h : tA σ H fun vs H1 => ∀ x dx, H1 x = none → H1 dx = none → dx ≠ x → sp (.ref x :: (vs ++ [])) (upd (upd H1 dx (.own x)) x (.ins C dx [])) (fun v H2 => v = .non ∧ Q (.ref x) H2) E) : tMake C sp [] E tA σ H Q := h
theorem s_fld {f : Str} (h : ta σ H fun x H1 => ∃ a C dx fs v, x = .ref a ∧ H1 a = some (.ins C dx fs) ∧ Cls K C ∧ NoAttr K C f ∧ fs.lookup f = some v ∧ Q v H1) : tFld K ta f σ H Q := h
theorem s_sfld {f : Str} {tv : TE} (h : tv σ H fun y H1 => ta σ H1 fun x H2 => ∃ a C dx fs, x = .ref a ∧ H2 a = some (.ins C dx fs) ∧ Cls K C ∧ NoAttr K C f ∧ fs.length < 1000 ∧ D.nx σ (upd H2 a (.ins C dx (putF f y fs)))) : sFld K ta tv f D σ H := h
theorem iteD {p A B : Prop} [Decidable p] (hp : p) (h : A) : if decide p = true then A else B := by rw [decide_eq_true hp]; exact iteT h
theorem iteN {p A B : Prop} [Decidable p] (hp : ¬ p) (h : B) : if decide p = true then A else B := by rw [decide_eq_false hp]; exact iteF h
theorem tru_of {p : Prop} [Decidable p] {R : V → Prop} (hp : p) (h : R (.bl true)) : R (.bl (decide p)) := by rw [decide_eq_true hp]; exact h
theorem fal_of {p : Prop} [Decidable p] {R : V → Prop} (hp : ¬ p) (h : R (.bl false)) : R (.bl (decide p)) := by rw [decide_eq_false hp]; exact h
theorem s_revL (h : te σ H fun x H1 => ∃ a xs, x = .ref a ∧ SqL K H1 a xs ∧ ∀ p, H1 p = none → Q (.ref p) (upd H1 p (.lst xs.reverse))) : tRevL K te σ H Q := h
theorem s_listZip (h : tA σ H fun vs H1 => ∃ (a b : Addr) (xs ys : List V), vs = [.ref a, .ref b] ∧ SqL K H1 a xs ∧ SqL K H1 b ys ∧
  ∀ (l : Addr) (Ts : List Addr) (H2 : Hp), Same H1 H2 → H1 l = none → Ts.length = min xs.length ys.length →
    (∀ (i : Nat) (T : Addr), Ts[i]? = some T → H1 T = none ∧ ∃ x y, xs[i]? = some x ∧ ys[i]? = some y ∧ H2 T = some (.tup [x, y])) → H2 l = some (.lst (Ts.map V.ref)) → Q (.ref l) H2) : tListZip K tA σ H Q := h
theorem s_iEnum {R : It → Hp → Prop} (h : tA σ H fun vs H1 => ∃ a xs, vs = [.ref a] ∧ SqL K H1 a xs ∧ R (Ite K a) H1) : iEnum K tA σ H R := h
theorem s_iZipS {R : It → Hp → Prop} (h : tA σ H fun vs H1 => ∃ x y : Str, vs = [.str x, .str y] ∧ R (ItzS x y) H1) : iZipS tA σ H R := h
theorem s_yes {R : Bool → Hp → Prop} (h : R true H) : tYes σ H R := h
theorem s_bl {R : Bool → Prop} {b : Bool} (h : R b) : ∃ k, V.bl b = .bl k ∧ R k := ⟨b, rfl, h⟩
theorem s_m1 {r : V → List V → Hp → VK → Prop} (h : ta σ H fun x H1 => (∃ a, x = .str a) ∧ te σ H1 fun y H2 => r x [y] H2 Q) : tM1 r ta te σ H Q := h
theorem s_isi {T U : String} {b : Bool} (ht : TyX K H x (.type T)) (hk : kitB T U = some b) (h : Q (.bl b) H) : rIsi K [x, .ty U] H Q := ⟨x, .ty U, _, _, b, rfl, .ty U, ht, kit_ty hk, h⟩
theorem s_not {R : Bool → Hp → Prop} (h : t σ H fun c H1 => R (!c) H1) : tNot t σ H R := h
theorem s_and {R : Bool → Hp → Prop} (h : t σ H fun c H1 => if c = true then u σ H1 R else R false H1) : tAnd t u σ H R := h
theorem s_or {R : Bool → Hp → Prop} (h : t σ H fun c H1 => if c = true then R true H1 else u σ H1 R) : tOr t u σ H R := h
theorem s_andV (h : ta σ H fun x H1 => ∃ c, x = .bl c ∧ if c = true then tb σ H1 Q else Q (.bl false) H1) : tAndV ta tb σ H Q := h
theorem s_notV (h : ta σ H fun x H1 => ∃ c, x = .bl c ∧ Q (.bl (!c)) H1) : tNotV ta σ H Q := h
theorem s_drop (h : te σ H fun _ H1 => D.nx σ H1) : tDrop te D σ H := h
theorem s_ret (h : te σ H D.rt) : tRet te D σ H := h
theorem s_nil {R : List V → Hp → Prop} (h : R [] H) : tNil σ H R := h
theorem s_cons {R : List V → Hp → Prop} (h : te σ H fun x H1 => tA σ H1 fun xs H2 => R (x :: xs) H2) : tCons te tA σ H R := h
theorem s_call {sp : Sp} (h : tA σ H fun vs H1 => sp (vs ++ []) H1 Q E) : tCall sp [] E tA σ H Q := h
theorem s_CB {r : List V → Hp → VK → Prop} (h : tA σ H fun vs H1 => r vs H1 Q) : tCB r tA σ H Q := h
theorem s_lst (h : tA σ H fun xs H1 => xs.length ≤ sizeLine ∧ ∀ p, H1 p = none → Q (.ref p) (upd H1 p (.lst xs))) : tLst tA σ H Q := h
theorem s_tup (h : tA σ H fun xs H1 => xs.length ≤ sizeLine ∧ ∀ p, H1 p = none → Q (.ref p) (upd H1 p (.tup xs))) : tTup tA σ H Q := h
theorem s_for {wi : TI} {g : TG} (h : wi σ H fun J H1 => ∃ W : Nat → Nat → L2.St → Hp → Prop, (∃ m, W 0 m σ H1) ∧ ∀ i m σ H, W i m σ H →
  (J.stop i H ∧ D.nx σ H) ∨ (J.go i H ∧ ∃ N : L2.St → Hp → Prop, (∀ σ' H', N σ' H' → ∃ m', m' < m ∧ W (i + 1) m' σ' H') ∧ ∀ x H', J.yld i H x H' → g x σ H' fun σ2 H2 => t1 { D with nx := N, ct := N, bk := D.nx } σ2 H2)) : tFor wi g t1 D σ H := h
theorem s_iList {R : It → Hp → Prop} (h : te σ H fun x H1 => ∃ a, x = .ref a ∧ (∃ xs, SqL K H1 a xs) ∧ R (Itl K a) H1) : iList K te σ H R := h
theorem s_iStr {R : It → Hp → Prop} (h : te σ H fun v H1 => ∃ x, v = .str x ∧ R (Its x) H1) : iStr te σ H R := h
theorem s_iRng1 {R : It → Hp → Prop} (h : tA σ H fun vs H1 => ∃ j : Int, vs = [.int j] ∧ -(2 ^ 62) ≤ j ∧ j < 2 ^ 62 ∧ R (Itr 0 j.toNat) H1) : iRng1 tA σ H R := h
theorem s_par {i j : Nat} (h : tA σ H fun vs H1 => ∃ v w, vs = [v, w] ∧ D.nx ((σ.set i (some v)).set j (some w)) H1) : tPar i j tA D σ H := h
theorem s_sl {r : V → Option Int → Option Int → Hp → VK → Prop} {tl th : TO} (h : te σ H fun x H1 => tl σ H1 fun l H2 => th σ H2 fun u H3 => r x l u H3 Q) : tSl r te tl th σ H Q := h
theorem s_part {R : Option Int → Hp → Prop} (h : te σ H fun x H1 => ∃ i, x = .int i ∧ R (some i) H1) : tPart te σ H R := h
theorem s_noPart {R : Option Int → Hp → Prop} (h : R none H) : tNoPart σ H R := h
theorem s_bm {T : String} {r : V → List V → Hp → VK → Prop} (h : ta σ H fun x H1 => tyV K T x H1 ∧ tA σ H1 fun xs H2 => r x xs H2 Q) : tBM K T r ta tA σ H Q := h
theorem s_lenS {z : Str} (hz : z.length ≤ sizeLine) (h : Q (.int z.length) H) : (fun xs H Q => ∃ z, xs = [V.str z] ∧ z.length ≤ sizeLine ∧ Q (.int z.length) H : List V → Hp → VK → Prop) [.str z] H Q := ⟨z, rfl, hz, h⟩
end
end K68
/-! more steps of a reading; writes to the bag -/
namespace K68
open PySem PySem.Spec PyProof.Rows L2 TL
section
variable {σ : L2.St} {H : Hp} {Q : VK} {D : Ends} {ta tb te tx : TE} {t u c : TT} {tA : TA} {t1 t2 : TS} {x y v : V} {E : XK} {K : PySem.W.Frag}
/-- one word for all ways through the first statement -/
theorem s_seqK (Pv : L2.St → Hp → Prop) (h2 : ∀ σ H, Pv σ H → t2 D σ H) (h1 : ∀ N : L2.St → Hp → Prop, (∀ σ H, Pv σ H → N σ H) → t1 { D with nx := N } σ H) : tSeq t1 t2 D σ H := h1 _ h2
theorem s_augS {to ti : TE} {tget : V → V → Hp → VK → Prop} {tip : TIp} {tset : TSet} (h : to σ H fun o H1 => ti σ H1 fun i H2 => tget o i H2 fun x H3 => te σ H3 fun y H4 => tip x y H4 fun z H5 => tset o i z H5 fun H6 => D.nx σ H6) : tAugS to ti te tget tip tset D σ H := h
theorem s_gsub {to ti : TE} {t : TSet} {R : L2.St → Hp → Prop} (h : to σ H fun o H1 => ti σ H1 fun i H2 => t o i v H2 fun H3 => R σ H3) : gSub to ti t v σ H R := h
theorem s_ip {f : Int → Int → Int} {i j : Int} (h : Q (.int (f i j)) H) : ipI f (.int i) (.int j) H Q := ⟨i, j, rfl, rfl, h⟩
theorem s_bagR {b : Addr} {xs : List V} {k : Int} {w : V} (e : H b = some (.lst xs)) (ha : atI xs k = some w) (h : Q w H) : rIxL K (.ref b) (.int k) H Q := ⟨b, xs, k, w, rfl, rfl, SqL.of e, ha, h⟩
theorem s_bagG {b : Addr} {xs : List V} {k : Nat} {w : V} (e : H b = some (.lst xs)) (ha : xs[k]? = some w) (h : Q w H) : rGetL K (.ref b) (.int (k : Nat)) H Q := ⟨b, xs, k, w, rfl, rfl, SqL.of e, ha, h⟩
theorem s_setL {b : Addr} {xs : List V} {k : Int} {j : Nat} {R : Hp → Prop} (e : H b = some (.lst xs)) (hi : ixN xs.length k = some j) (h : R (upd H b (.lst (xs.set j v)))) : rSetL (.ref b) (.int k) v H R := ⟨b, xs, k, j, rfl, rfl, e, hi, h⟩
theorem s_iRng3 {R : It → Hp → Prop} (h : tA σ H fun vs H1 => ∃ (i j c : Int) (n : Nat), vs = [.int i, .int j, .int c] ∧ RgC i j c n ∧ R (Itc i c n) H1) : iRng3 tA σ H R := h
theorem s_mulS (h : ∃ (z : Str) (n : Int), x = .str z ∧ y = .int n ∧ 1 ≤ n ∧ n ≤ 16777216 ∧ z.length * n.toNat ≤ sizeLine ∧ ∀ u : Str, tl u = (List.replicate n.toNat (tl z)).flatten → Q (.str u) H) : rMulS x y H Q := h
theorem s_revS (h : te σ H fun x H1 => ∃ z : Str, x = .str z ∧ z.length ≤ sizeLine ∧ ∀ u : Str, tl u = (tl z).reverse → Q (.str u) H1) : tRevS te σ H Q := h
theorem s_gname {i : Nat} {R : L2.St → Hp → Prop} (h : R (σ.set i (some v)) H) : gName i v σ H R := h
/-- a, b = x, y where a pair is laid -/
theorem s_pair {g1 g2 : TG} {R : L2.St → Hp → Prop} {a b : V} (h : ∀ p, H p = none → g1 a σ (upd H p (.tup [a, b])) fun σ1 H1 => g2 b σ1 H1 R) : ([a, b] : List V).length ≤ sizeLine ∧ ∀ p, H p = none → gTup K 2 (gCons g1 (gCons g2 gNil)) (.ref p) σ (upd H p (.tup [a, b])) R :=
  ⟨by show 2 ≤ sizeLine; decide, fun p hp => ⟨p, _, rfl, SqT.of upd_same, rfl, _, _, rfl, (by
    have q := h p hp
    show g1 a σ _ fun σ1 H1 => ∃ v r, [b] = v :: r ∧ g2 v σ1 H1 fun σ' H' => r = [] ∧ R σ' H'
    exact cast (congrArg (g1 a σ _) (funext fun σ1 => funext fun H1 => propext ⟨fun q => ⟨b, [], rfl, by
      exact cast (congrArg (g2 b σ1 H1) (funext fun σ' => funext fun H' => propext ⟨fun z => ⟨rfl, z⟩, fun z => z.2⟩)) q⟩, fun q => by
      obtain ⟨v, r, e, q⟩ := q
      cases e
      exact cast (congrArg (g2 b σ1 H1) (funext fun σ' => funext fun H' => propext ⟨fun z => z.2, fun z => ⟨rfl, z⟩⟩)) q⟩)) q)⟩⟩
end
theorem ne_ref {H : Hp} {a b : Addr} {o : HO} (h : H a = none) (k : H b = some o) : b ≠ a := ne_of_none k h
/-! ### the bag's writes -/
theorem BagW.put {H : Hp} {b : Addr} {h m i h' m' i' : Int} {c : Addr} {ns : List Int} (W : BagW H b h m i c ns) (i0 : 0 ≤ i') : BagW (upd H b (.lst [.int h', .int m', .int i', .ref c])) b h' m' i' c ns :=
  ⟨upd_same, by rw [upd_ne W.ne]; exact W.cells, i0⟩
theorem BagW.bag {H : Hp} {b : Addr} {h m i : Int} {c : Addr} {ns : List Int} (W : BagW H b h m i c ns) : Bag H b := ⟨_, _, _, _, _, W⟩
theorem Rel.put {H0 H : Hp} {b : Addr} {h m i h' m' i' : Int} {c : Addr} {ns : List Int} (r : Rel b H0 H) (W : BagW H b h m i c ns) (i0 : 0 ≤ i') : Rel b H0 (upd H b (.lst [.int h', .int m', .int i', .ref c])) :=
  ⟨fun a o e n => by rw [upd_ne n]; exact r.kp a o e n, (W.put i0).bag, fun _ _ _ c0 ns0 W0 => by
    obtain ⟨h1, m1, i1, W1⟩ := r.cc _ _ _ _ _ W0
    have q := W1.ob
    rw [W.ob] at q
    have q2 : [V.int h, .int m, .int i, .ref c] = [.int h1, .int m1, .int i1, .ref c0] := HO.lst.inj (Option.some.inj q)
    have q3 : c = c0 := by
      cases q2
      rfl
    subst q3
    exact ⟨h', m', i', upd_same, by rw [upd_ne W.ne]; exact W1.cells, i0⟩⟩
/-- a write to what was free at the start -/
theorem Rel.at_new {H H' : Hp} {b f : Addr} (r : Rel b H H') (B : Bag H b) (hf : H f = none) (o : HO) : Rel b H (upd H' f o) := by
  have cc : ∀ h m i c ns, BagW H b h m i c ns → ∃ h' m' i', BagW (upd H' f o) b h' m' i' c ns := fun h m i c ns W => by
    obtain ⟨h1, m1, i1, W1⟩ := r.cc _ _ _ _ _ W
    exact ⟨h1, m1, i1, by rw [upd_ne (ne_of_none W.ob hf)]; exact W1.ob, by rw [upd_ne (ne_of_none W.cells hf)]; exact W1.cells, W1.i0⟩
  refine ⟨fun a o e n => by rw [upd_ne (ne_of_none e hf)]; exact r.kp a o e n, ?_, cc⟩
  obtain ⟨h, m, i, c, ns, W⟩ := B
  obtain ⟨h1, m1, i1, W1⟩ := cc _ _ _ _ _ W
  exact ⟨_, _, _, _, _, W1⟩
/-- a list of small numbers through a bag's turn -/
theorem Rel.cI {H H' : Hp} {b a : Addr} {cs : List Nat} (r : Rel b H H') (B : Bag H b) (h : H a = some (.lst (cI cs))) : H' a = some (.lst (cI cs)) := r.kp _ _ h (B.ne h)
/-- what is laid after the start is not the bag -/
theorem Rel.new {H H1 : Hp} {b p : Addr} {o : HO} (r : Rel b H H1) (h : H1 p = none) : Rel b H (upd H1 p o) := r.same (same_new h)
theorem ite2' {A B : Prop} {c : Bool} (h1 : c = true → A) (h2 : c = false → B) : if c = true then A else B := by
  cases c with
  | true => exact h1 rfl
  | false => exact h2 rfl
end K68
namespace K68
open PySem PySem.Spec PyProof.Rows L2 TL
/-! ### cuts of a text -/
theorem cutS_to (z : Str) (k : Nat) : tl (cutS z none (some ((k : Nat) : Int))) = (tl z).take k := by
  show (((tl z).drop (HT.sIx z.length 0 none)).take (HT.sIx z.length z.length (some (k : Int)) - HT.sIx z.length 0 none)) = _
  rw [HT.sIx_none, HT.sIx_nat, List.drop_zero, Nat.sub_zero, len_tl]
  by_cases h : k ≤ (tl z).length
  · rw [Nat.min_eq_left h]
  · rw [Nat.min_eq_right (by omega), List.take_of_length_le (Nat.le_refl _), List.take_of_length_le (by omega)]
theorem cutS_from (z : Str) (k : Nat) : tl (cutS z (some ((k : Nat) : Int)) none) = (tl z).drop k := by
  show (((tl z).drop (HT.sIx z.length 0 (some (k : Int)))).take (HT.sIx z.length z.length none - HT.sIx z.length 0 (some (k : Int)))) = _
  rw [HT.sIx_none, HT.sIx_nat, len_tl]
  by_cases h : k ≤ (tl z).length
  · rw [Nat.min_eq_left h, List.take_of_length_le (by rw [List.length_drop]; omega)]
  · rw [Nat.min_eq_right (by omega), Nat.sub_self, List.take_zero, List.drop_of_length_le (by omega)]
theorem cutS_mid (z : Str) (i j : Nat) (h : i + j ≤ z.length) : tl (cutS z (some ((i : Nat) : Int)) (some ((i + j : Nat) : Int))) = ((tl z).drop i).take j := by
  show (((tl z).drop (HT.sIx z.length 0 (some (i : Int)))).take (HT.sIx z.length z.length (some ((i + j : Nat) : Int)) - HT.sIx z.length 0 (some (i : Int)))) = _
  rw [HT.sIx_nat, HT.sIx_nat, Nat.min_eq_left h, Nat.min_eq_left (show i ≤ z.length by omega), Nat.add_sub_cancel_left]
theorem cutS_but1 (z : Str) (h : 1 ≤ z.length) : tl (cutS z none (some (-1))) = (tl z).take (z.length - 1) := by
  show (((tl z).drop (HT.sIx z.length 0 none)).take (HT.sIx z.length z.length (some (-1)) - HT.sIx z.length 0 none)) = _
  rw [HT.sIx_none, List.drop_zero, Nat.sub_zero]
  have e : HT.sIx z.length z.length (some (-1)) = z.length - 1 := by
    show (if (-1 : Int) < 0 then ((-1 : Int) + (z.length : Int)).toNat else min (-1 : Int).toNat z.length) = _
    rw [if_pos (by decide)]
    omega
  rw [e]
/-! ### lists of ints as data -/
theorem dp_all {K : PySem.W.Frag} {H : Hp} : ∀ cs : List Nat, DpAll K H (cI cs) (cs.map fun n => PyData.int ((n : Nat) : Int))
  | [] => .nil
  | c :: cs => .cons (.int _) (dp_all cs)
theorem lay_all : ∀ cs : List Nat, PyData.canLayAll0 (cs.map fun n => PyData.int ((n : Nat) : Int)) = true
  | [] => by simp [PyData.canLayAll0]
  | c :: cs => by
    have h := lay_all cs
    simp [PyData.canLayAll0, PyData.canLay0]
    simpa using h
theorem depth_all : ∀ cs : List Nat, PyData.depthAll (cs.map fun n => PyData.int ((n : Nat) : Int)) = 0
  | [] => by simp [PyData.depthAll]
  | c :: cs => by
    have h := depth_all cs
    rw [List.map_cons]
    simp only [PyData.depthAll, PyData.depth]
    rw [h]
    rfl
theorem shaped_cs (cs : List Nat) : SeqAt.shaped (.list (cs.map fun n => PyData.int ((n : Nat) : Int))) = true := by
  unfold SeqAt.shaped
  simp only [PyData.canLay0, PyData.depth, lay_all, depth_all]
  rfl
theorem eqv_nil (cs : List Nat) : PyData.eqv (.list (cs.map fun n => PyData.int ((n : Nat) : Int))) (.list []) = decide (cs = []) := by
  cases cs with
  | nil => rfl
  | cons c cs => rw [decide_eq_false (by simp)]; rfl
theorem ixN_of {n j : Nat} (hj : j < n) : ixN n (j : Int) = some j := by
  unfold ixN
  rw [if_pos (by omega), if_pos (by omega)]
  simp
/-! ### rows that differ -/
theorem apart_ne {r o : List Nat} {n : Nat} (hr : r.length = n) (ho : o.length = n) (h : o ≠ r) : apart r o n ≠ [] := fun e => h (by
  refine List.ext_getElem (by omega) fun i h1 h2 => ?_
  by_cases q : r.getD i 0 = o.getD i 0
  · rw [List.getD_eq_getElem?_getD, List.getD_eq_getElem?_getD, List.getElem?_eq_getElem h1, List.getElem?_eq_getElem h2] at q
    exact q.symm
  · have m : i ∈ apart r o n := apart_mem.mpr ⟨by omega, q⟩
    rw [e] at m
    cases m)
theorem ends_of {l : List Nat} (h : l ≠ []) : ∃ d0 ys d1, l[0]? = some d0 ∧ l = ys ++ [d1] := by
  obtain ⟨d0, r, e⟩ := List.exists_cons_of_ne_nil h
  exact ⟨d0, l.dropLast, l.getLast h, by rw [e]; rfl, (List.dropLast_concat_getLast h).symm⟩
theorem sg_lt (c d : Nat) : ((sg c).cps.toList < (sg d).cps.toList) ↔ c < d := by
  show ([c] : List Nat) < [d] ↔ c < d
  rw [List.cons_lt_cons_iff]
  simp
/-- a test that holds on neither side or on both -/
theorem neq_same {p q : Prop} [Decidable p] [Decidable q] {A B : Prop} (h : p ↔ q) (hb : B) : if (!decide (V.bl (decide p) = V.bl (decide q))) = true then A else B := by
  have e : decide p = decide q := decide_eq_decide.mpr h
  rw [e, decide_eq_true rfl]
  exact hb
/-! ### letters other than one -/
theorem flt3 (t : Nat) : 2 ≤ (([97, 98, 99] : List Nat).filter (· != t)).length := by
  by_cases h1 : t = 97
  · subst h1; decide
  by_cases h2 : t = 98
  · subst h2; decide
  have e1 : ((97 : Nat) != t) = true := by simp; omega
  have e2 : ((98 : Nat) != t) = true := by simp; omega
  rw [List.filter_cons, if_pos e1, List.filter_cons, if_pos e2]
  simp
theorem flt4 (t : Nat) : 3 ≤ (([97, 98, 99, 100] : List Nat).filter (· != t)).length := by
  by_cases h1 : t = 97
  · subst h1; decide
  by_cases h2 : t = 98
  · subst h2; decide
  by_cases h3 : t = 99
  · subst h3; decide
  have e1 : ((97 : Nat) != t) = true := by simp; omega
  have e2 : ((98 : Nat) != t) = true := by simp; omega
  have e3 : ((99 : Nat) != t) = true := by simp; omega
  rw [List.filter_cons, if_pos e1, List.filter_cons, if_pos e2, List.filter_cons, if_pos e3]
  simp
theorem sgs_len (l : List Nat) : (sgs l).length = l.length := List.length_map ..
theorem sgs_at {l : List Nat} {i c : Nat} (h : l[i]? = some c) : (sgs l)[i]? = some (.str (sg c)) := by rw [List.getElem?_map, h]; rfl
theorem Low.app {x y : Str} (h1 : Low x) (h2 : Low y) : Low (x ++ y) := fun c hc => by
  rw [tl_append] at hc
  rcases List.mem_append.mp hc with h | h
  · exact h1 c h
  · exact h2 c h
theorem len_app (x y : Str) : (x ++ y).length = x.length + y.length := by rw [len_tl, tl_append, List.length_append, ← len_tl, ← len_tl]
theorem Low.at {z : Str} (h : Low z) {i : Nat} (hi : i < z.length) : 97 ≤ (tl z).getD i 0 ∧ (tl z).getD i 0 ≤ 122 := h _ (List.mem_of_getElem? (tl_at hi))
theorem Low.sg {c : Nat} (h : 97 ≤ c ∧ c ≤ 122) : Low (sg c) := fun d hd => by
  have e : d = c := by simpa using (show d ∈ [c] from hd)
  rw [e]; exact h
theorem Low.cut {z u : Str} {k : Nat} (h : Low z) (e : tl u = (tl z).take k) : Low u := fun c hc => h c (by rw [e] at hc; exact List.mem_of_mem_take hc)
end K68
namespace K68
open PySem PySem.Spec PyProof.Rows L2 TL
local macro_rules | `(tactic| walk_at "k68") => `(tactic| (first | ((with_reducible refine' s_var ?e ?_); (case e => exact rfl)) | (with_reducible refine s_seq ?_) | (with_reducible refine s_next ?_) | (with_reducible refine s_set ?_) | (with_reducible refine s_c ?_) | (with_reducible refine s_op ?_) | (with_reducible refine s_un ?_) | (with_reducible refine s_I0 ?_) | (with_reducible refine s_U ?_) | (with_reducible refine s_if ?_) | (with_reducible refine s_ifE ?_) | (with_reducible refine s_test ?_) | (with_reducible refine s_B ?_) | (with_reducible refine s_bl ?_) | (with_reducible refine s_not ?_) | (with_reducible refine s_and ?_) | (with_reducible refine s_or ?_) | (with_reducible refine s_andV ?_) | (with_reducible refine s_notV ?_) | (with_reducible refine s_drop ?_) | (with_reducible refine s_ret ?_) | (with_reducible refine s_nil ?_) | (with_reducible refine s_cons ?_) | (with_reducible refine s_call ?_) | (with_reducible refine s_CB ?_) | (with_reducible refine s_lst ?_) | (with_reducible refine s_tup ?_) | (with_reducible refine s_for ?_) | (with_reducible refine s_iList ?_) | (with_reducible refine s_iStr ?_) | (with_reducible refine s_iRng1 ?_) | (with_reducible refine s_par ?_) | (with_reducible refine s_sl ?_) | (with_reducible refine s_part ?_) | (with_reducible refine s_noPart ?_) | (with_reducible refine s_bm ?_) | (with_reducible refine s_asg ?_) | (with_reducible refine s_m1 ?_) | (with_reducible refine s_chain ?_) | (with_reducible refine s_chain3 ?_) | (with_reducible refine s_meth ?_) | (with_reducible refine s_make ?_) | (with_reducible refine s_fld ?_) | (with_reducible refine s_sfld ?_) | (with_reducible refine s_revL ?_) | (with_reducible refine s_listZip ?_) | (with_reducible refine s_iEnum ?_) | (with_reducible refine s_iZipS ?_) | (with_reducible refine s_augS ?_) | (with_reducible refine s_gsub ?_) | (with_reducible refine s_ip ?_) | (with_reducible refine s_pair ?_) | (with_reducible refine s_iRng3 ?_) | (with_reducible refine s_revS ?_) | (with_reducible refine s_gname ?_) | ((with_reducible refine' s_eq ?e ?_); (case e => exact rfl)) | ((with_reducible refine' s_ne ?e ?_); (case e => exact rfl)) | (with_reducible refine (show tLc _ _ _ _ _ _ _ _ from ?_); unfold tLc)))
local macro_rules | `(tactic| walk_at "ks") => `(tactic| (repeat (walk_at "k68")))
section
variable {P : Program} {w : World} {K : PySem.W.Frag} {mg : Str → Option Value} {base : Heap} {a : Ad}
theorem ok_is_integer (T : Tx K mg a) : FnOk P w K mg base CX0 1 a.is_integer.1 a.is_integer.2 p_is_integer sp_is_integer := by
  refine T.F_is_integer.ok sc_is_integer (fun vs H Q E h => ?_) (fun cdv A outer s H vs Q E hr h => ?_)
  · obtain ⟨i, rfl, _⟩ := h
    rfl
  · obtain ⟨i, rfl, k⟩ := h
    refine ⟨_, (pss_one (ps_ret (pe_and (pe_callB call_isi (by rfl) T.z_isinstance (by decide +kernel) (pa_cons (pv 0) (pa_cons (pe_bltn (v := .ty "int") (u := .type "int") (by rfl) T.z_int (by decide +kernel) rfl) pa_nil))) (pe_one (pe_not (pe_callB call_isi (by rfl) T.z_isinstance (by decide +kernel) (pa_cons (pv 0) (pa_cons (pe_bltn (v := .ty "bool") (u := .type "bool") (by rfl) T.z_bool (by decide +kernel) rfl) pa_nil)))))))), ?_⟩
    walk_at "ks"
    refine s_isi (.base (.int i)) (b := true) (by decide +kernel) ?_
    walk_at "ks"
    refine iteT ?_
    walk_at "ks"
    refine s_isi (.base (.int i)) (b := false) (by decide +kernel) ?_
    walk_at "ks"
    exact k
theorem ok_is_between (T : Tx K mg a) (G_is_integer : FnOk P w K mg base CX0 1 a.is_integer.1 a.is_integer.2 p_is_integer sp_is_integer) : FnOk P w K mg base CX0 2 a.is_between.1 a.is_between.2 p_is_between sp_is_between := by
  refine T.F_is_between.ok sc_is_between (fun vs H Q E h => ?_) (fun cdv A outer s H vs Q E hr h => ?_)
  · obtain ⟨i, l, m, rfl, _⟩ := h
    rfl
  · obtain ⟨i, l, m, rfl, h1, h2, k⟩ := h
    refine ⟨_, (pss_one (ps_ret (pe_and (pe_call G_is_integer (hr.mono (by decide)) (by rfl) T.g_is_integer T.F_is_integer.kp T.b_is_integer .nil pass0 (pa_cons (pv 0) pa_nil)) (pe_one (pe_chain op_le op_le (pv 1) (pv 0) (pv 2)))))), ?_⟩
    walk_at "ks"
    refine ⟨i, rfl, ?_⟩
    walk_at "ks"
    refine iteT ?_
    walk_at "ks"
    refine iteD h1 ?_
    walk_at "ks"
    exact tru_of (R := fun v => Q v H) h2 k
theorem ok_shown (T : Tx K mg a) : FnOk P w K mg base CX0 1 a.shown.1 a.shown.2 p_shown sp_shown := by
  refine T.F_shown.ok sc_shown (fun vs H Q E h => ?_) (fun cdv A outer s H vs Q E hr h => ?_)
  · obtain ⟨L, c, p, rfl, _⟩ := h
    rfl
  · obtain ⟨L, c, p, rfl, k⟩ := h
    refine ⟨_, (pss_cons (ps_if (pt_cmpR op_lt (pv 2) (pv 1) (nomark _))
      (pss_one (ps_ret (pv 2)))
      pss_nil)
      (pss_cons (ps_if (pt_cmpR op_le (pv 2) (pe_op op_add (pv 1) (pv 0)) (nomark _))
      (pss_one (ps_ret (pe_op op_sub (pv 2) (pv 1))))
      pss_nil)
      (pss_one (ps_ret (pe_op op_sub (pv 2) (pv 0)))))), ?_⟩
    have sp := shN_spec L c p
    walk_at "ks"
    refine ite2 (fun e => ?_) (fun e => ?_)
    · have e := of_decide_eq_true e
      walk_at "ks"
      rw [show shN L c p = p by omega] at k
      exact k
    · have e : ¬ ((p : Int) < c) := fun q => e (decide_eq_true q)
      walk_at "ks"
      refine ite2 (fun e2 => ?_) (fun e2 => ?_)
      · have e2 := of_decide_eq_true e2
        walk_at "ks"
        rw [show ((shN L c p : Nat) : Int) = (p : Int) - c by omega] at k
        exact k
      · have e2 : ¬ ((p : Int) ≤ (c : Int) + L) := fun q => e2 (decide_eq_true q)
        walk_at "ks"
        rw [show ((shN L c p : Nat) : Int) = (p : Int) - L by omega] at k
        exact k
theorem ok_is_story (T : Tx K mg a) (G_is_between : FnOk P w K mg base CX0 2 a.is_between.1 a.is_between.2 p_is_between sp_is_between) : FnOk P w K mg base CX0 3 a.is_story.1 a.is_story.2 p_is_story sp_is_story := by
  refine T.F_is_story.ok sc_is_story (fun vs H Q E h => ?_) (fun cdv A outer s H vs Q E hr h => ?_)
  · obtain ⟨L, b, cs, rfl, _⟩ := h
    rfl
  · obtain ⟨L, b, cs, rfl, hb, hn, ok, k⟩ := h
    refine ⟨_, (pss_cons (ps_if (PW.pt (pw_or (pt_not (pt_val (pe_callB call_isi (by rfl) T.z_isinstance (by decide +kernel) (pa_cons (pv 1) (pa_cons (pe_bltn (v := .ty "list") (u := .type "list") (by rfl) T.z_list (by decide +kernel) rfl) pa_nil))))) (pw_or1 (pt_cmpR op_gt (pe_callB call_len_seq (by rfl) T.z_len PySem.boot_len (pa_cons (pv 1) pa_nil)) (pe_glob (v := .int 64) rfl T.g_MOST_CALLS ⟨_, rfl⟩) (nomark _)))))
      (pss_one (ps_ret pe_bl))
      pss_nil)
      (pss_cons (ps_for PassesOwn.never rfl (pi_list (pv 1)) (pg_name (i := 2) sc_is_story.nd rfl (Or.inl rfl))
      (pss_cons (ps_if (pt_not (pt_val (pe_call G_is_between (hr.mono (by decide)) (by rfl) T.g_is_between T.F_is_between.kp T.b_is_between .nil pass0 (pa_cons (pv 2) (pa_cons pe_int (pa_cons (pv 0) pa_nil))))))
      (pss_one (ps_ret pe_bl))
      pss_nil)
      (pss_one (ps_set (i := 0) sc_is_story.nd rfl (Or.inl rfl) (pe_op op_mul pe_int (pv 0))))))
      (pss_one (ps_ret pe_bl)))), ?_⟩
    walk_at "ks"
    refine s_isi (.base (.lst hb)) (b := true) (by decide +kernel) ?_
    walk_at "ks"
    refine iteF ?_
    walk_at "ks"
    refine ⟨b, _, rfl, .inl (SqL.of hb), ?_⟩
    walk_at "ks"
    refine iteN (by rw [cI_len]; omega) ?_
    walk_at "ks"
    refine ⟨b, rfl, ⟨_, SqL.of hb⟩, for_list (K := K) (a := b) (xs := cI cs) (fun i σ H' => ∃ v : Option V, σ = [some (.int (lastN L (cs.take i) : Nat)), some (.ref b), v] ∧ H' = H)
      ⟨none, rfl, rfl⟩ (fun i σ H' _ ⟨_, _, e⟩ => by rw [e]; exact SqL.of hb) ?_ ?_⟩
    · rintro i v σ H' hi ⟨_, rfl, rfl⟩
      obtain ⟨c, hc, rfl⟩ := of_cI hi
      have hle := okS_at cs L i c ok hc
      show tSeq _ _ _ _ _
      walk_at "ks"
      refine ⟨c, 0, _, rfl, by omega, by omega, ?_⟩
      walk_at "ks"
      refine iteF ?_
      walk_at "ks"
      refine s_I (.inl ⟨by decide, by decide⟩) ?_
      refine ⟨some (.int c), ?_, rfl⟩
      rw [take_snoc hc, lastN_snoc]
      rfl
    · rintro σ H' ⟨v, rfl, rfl⟩
      walk_at "ks"
      exact k

end
section
variable {P : Program} {w : World} {K : PySem.W.Frag} {mg : Str → Option Value} {base : Heap} {a : Ad}
theorem ok_is_text (T : Tx K mg a) : FnOk P w K mg base CX0 1 a.is_text.1 a.is_text.2 p_is_text sp_is_text := by
  refine T.F_is_text.ok sc_is_text (fun vs H Q E h => ?_) (fun cdv A outer s H vs Q E hr h => ?_)
  · obtain ⟨z, m, rfl, _⟩ := h
    rfl
  · obtain ⟨z, m, rfl, h1, h2, h3, low, k⟩ := h
    have hz : z.length ≤ sizeLine := Nat.le_trans h3 (by decide)
    refine ⟨_, (pss_cons (ps_if (PW.pt (pw_or (pt_not (pt_val (pe_callB call_isi (by rfl) T.z_isinstance (by decide +kernel) (pa_cons (pv 0) (pa_cons (pe_bltn (v := .ty "str") (u := .type "str") (by rfl) T.z_str (by decide +kernel) rfl) pa_nil))))) (pw_or1 (pt_not (pt_chain op_le op_le pe_int (pe_callB call_len_str (by rfl) T.z_len PySem.boot_len (pa_cons (pv 0) pa_nil)) (pv 1))))))
      (pss_one (ps_ret pe_bl))
      pss_nil)
      (pss_one (ps_ret (pe_callB (cr_all rfl) (by rfl) T.z_all (by decide +kernel) (pa_cons (pe_lc (own := [("letter", 2)]) (g := gName 2) rfl sc_is_text.nd (pi_str (pv 0)) (blkOk_by (own := [("letter", 2)]) (N := n_is_text) (sc := defScope s_is_text) (by decide +kernel)) (fun _ _ _ _ _ => pg_name (i := 2) sc_is_text.nd rfl (Or.inl rfl)) (fun _ _ _ _ _ => pts_nil) (fun _ _ _ _ _ => (pe_cmpR op_in_sign (pv 2) (pe_glob (v := .str "abcdefghijklmnopqrstuvwxyz") rfl T.g_LETTERS ⟨_, rfl⟩) rfl))) pa_nil))))), ?_⟩
    walk_at "ks"
    refine s_isi (.base (.str z)) (b := true) (by decide +kernel) ?_
    walk_at "ks"
    refine iteF ?_
    walk_at "ks"
    refine ⟨z, rfl, hz, ?_⟩
    walk_at "ks"
    refine iteD (by omega) ?_
    walk_at "ks"
    refine iteNS h2 ?_
    walk_at "ks"
    refine ⟨z, rfl, fun D hD => lc_it (n := z.cps.size) (G := fun _ => True) walk_str (fun i H' => Same H H' ∧ H' D = some (.lst (List.replicate i (V.bl true)))) ⟨same_new hD, upd_same⟩ (fun _ _ _ _ => trivial) (fun i x H1 H2 hi p y => ?_) (fun H1 p => ?_)⟩
    · obtain ⟨rfl, c, hc, rfl⟩ := y
      obtain ⟨p1, p2⟩ := p
      refine ⟨rfl, s_yes (iteT ?_)⟩
      walk_at "ks"
      have hm : c ∈ abc.cps.toList := mem_abc.mpr (low c (by
        show c ∈ z.cps.toList
        exact List.mem_of_getElem? (by rw [Array.getElem?_toList]; exact hc)))
      refine ⟨c, abc, rfl, rfl, _, p2, ?_, fun b o e => ?_, ?_⟩
      · rw [List.length_replicate]
        exact Nat.lt_of_lt_of_le hi hz
      · rw [upd_ne (ne_of_none e hD)]
        exact p1 b o e
      · rw [upd_same, decide_eq_true hm, List.replicate_succ']
    · refine ⟨D, List.replicate z.cps.size true, rfl, ?_, ?_⟩
      · rw [List.map_replicate]
        exact SqL.of p.2
      · rw [show (List.replicate z.cps.size true).all id = true by simp]
        exact k H1 p.1
theorem ok_is_row (T : Tx K mg a) (G_is_text : FnOk P w K mg base CX0 1 a.is_text.1 a.is_text.2 p_is_text sp_is_text) : FnOk P w K mg base CX0 2 a.is_row.1 a.is_row.2 p_is_row sp_is_row := by
  refine T.F_is_row.ok sc_is_row (fun vs H Q E h => ?_) (fun cdv A outer s H vs Q E hr h => ?_)
  · obtain ⟨z, rfl, _⟩ := h
    rfl
  · obtain ⟨z, rfl, row, k⟩ := h
    refine ⟨_, (pss_one (ps_ret (pe_and (pe_call G_is_text (hr.mono (by decide)) (by rfl) T.g_is_text T.F_is_text.kp T.b_is_text .nil pass0 (pa_cons (pv 0) (pa_cons (pe_glob (v := .int 1000) rfl T.g_MOST_LETTERS ⟨_, rfl⟩) pa_nil))) (pe_one (pe_cmpR op_gt (pe_callB call_len_str (by rfl) T.z_len PySem.boot_len (pa_cons (pv 0) pa_nil)) pe_int (nomark _)))))), ?_⟩
    walk_at "ks"
    refine ⟨z, 1000, rfl, by have := row.1; omega, by have := row.2.1; omega, row.2.1, row.2.2, fun H1 s1 => ?_⟩
    walk_at "ks"
    refine iteT ?_
    walk_at "ks"
    refine ⟨z, rfl, row.fits, ?_⟩
    walk_at "ks"
    exact tru_of (R := fun v => Q v H1) (by have := row.1; omega) (k H1 s1)
theorem ok_f_init (T : Tx K mg a) (G_is_row : FnOk P w K mg base CX0 2 a.is_row.1 a.is_row.2 p_is_row sp_is_row) (G_is_story : FnOk P w K mg base CX0 3 a.is_story.1 a.is_story.2 p_is_story sp_is_story) :
    FnOk P w K mg base CX0 4 a.f_init.1 a.f_init.2 p_f_init (sp_f_init a.C) := by
  refine T.F_f_init.ok sc_f_init (fun vs H Q E h => ?_) (fun cdv A outer s H vs Q E hr h => ?_)
  · obtain ⟨p, dx, b, z, cs, rfl, _⟩ := h
    rfl
  · obtain ⟨p, dx, b, z, cs, rfl, hp, row, hb, hn, ok, k⟩ := h
    refine ⟨_, (pss_cons (ps_if (pt_not (pt_val (pe_call G_is_row (hr.mono (by decide)) (by rfl) T.g_is_row T.F_is_row.kp T.b_is_row .nil pass0 (pa_cons (pv 1) pa_nil))))
      (pss_one ps_never)
      pss_nil)
      (pss_cons (ps_if (pt_not (pt_val (pe_call G_is_story (hr.mono (by decide)) (by rfl) T.g_is_story T.F_is_story.kp T.b_is_story .nil pass0 (pa_cons (pe_op op_sub (pe_callB call_len_str (by rfl) T.z_len PySem.boot_len (pa_cons (pv 1) pa_nil)) pe_int) (pa_cons (pv 2) pa_nil)))))
      (pss_one ps_never)
      pss_nil)
      (pss_cons (ps_fld (pv 0) (pv 1) rfl)
      (pss_one (ps_fld (pv 0) (pe_callTy call_list_of (by rfl) T.z_list (by decide +kernel) (pa_cons (pv 2) pa_nil)) rfl))))), ?_⟩
    walk_at "ks"
    refine ⟨z, rfl, row, fun H1 s1 => ?_⟩
    walk_at "ks"
    refine iteF ?_
    walk_at "ks"
    refine ⟨z, rfl, row.fits, ?_⟩
    walk_at "ks"
    have hp1 := s1 _ _ hp
    have hb1 := s1 _ _ hb
    have npb : b ≠ p := ne_of hb1 hp1 (by intro q; cases q)
    refine ⟨z.length - 1, b, cs, by rw [← sub1 (show 1 ≤ z.length by have := row.1; omega)]; rfl, hb1, hn, ok, ?_⟩
    walk_at "ks"
    refine iteF ?_
    walk_at "ks"
    refine ⟨p, a.C, dx, [], rfl, hp1, T.cl, T.nRow, (by show 0 < 1000; decide), ?_⟩
    walk_at "ks"
    refine ⟨b, _, rfl, .inl (SqL.of (by rw [upd_ne npb]; exact hb1)), fun l hl => ?_⟩
    have npl : p ≠ l := fun q => by
      rw [← q, upd_same] at hl
      cases hl
    have hl1 : H1 l = none := by
      rw [upd_ne npl.symm] at hl
      exact hl
    walk_at "ks"
    refine ⟨p, a.C, dx, _, rfl, Eq.trans (upd_ne npl) upd_same, T.cl, T.nSto, (by show 1 < 1000; decide), ?_⟩
    refine k _ l (fun c o e ne => ?_) ⟨upd_same, by rw [upd_ne npl.symm, upd_same], row, hn, ok⟩
    have e1 := s1 _ _ e
    rw [upd_ne ne, upd_ne (ne_of_none e1 hl1), upd_ne ne]
    exact e1
theorem ok_f_lasts (T : Tx K mg a) : FnOk P w K mg base CX0 1 a.f_lasts.1 a.f_lasts.2 p_f_lasts (sp_f_lasts a.C) := by
  refine T.F_f_lasts.ok sc_f_lasts (fun vs H Q E h => ?_) (fun cdv A outer s H vs Q E hr h => ?_)
  · obtain ⟨p, dx, l, z, cs, rfl, _⟩ := h
    rfl
  · obtain ⟨p, dx, l, z, cs, rfl, F, k⟩ := h
    refine ⟨_, (pss_cons (ps_set (i := 1) sc_f_lasts.nd rfl (Or.inl rfl) (pe_lst (pa_cons (pe_op op_sub (pe_callB call_len_str (by rfl) T.z_len PySem.boot_len (pa_cons (pe_fld (pv 0) rfl) pa_nil)) pe_int) pa_nil)))
      (pss_cons (ps_for PassesOwn.never rfl (pi_list (pe_fld (pv 0) rfl)) (pg_name (i := 2) sc_f_lasts.nd rfl (Or.inl rfl))
      (pss_one (ps_expr (pe_bm PySem.F.plainAttrs_list PySem.F.slot_list_append PySem.F.type_list_append mt_append (pv 1) (pa_cons (pe_op op_mul pe_int (pe_ix ix_list (pv 1) (pe_un un_neg pe_int) (fun _ _ => rfl))) pa_nil)))))
      (pss_one (ps_ret (pv 1))))), ?_⟩
    walk_at "ks"
    refine ⟨p, a.C, dx, _, _, rfl, F.ob, T.cl, T.nRow, ff_row _ _, ?_⟩
    walk_at "ks"
    refine ⟨z, rfl, F.row.fits, ?_⟩
    walk_at "ks"
    refine ⟨by show 1 ≤ sizeLine; decide, fun r hr' => ?_⟩
    walk_at "ks"
    have s1 : Same H (upd H r (.lst [.int ((z.length : Int) - 1)])) := same_new hr'
    have F1 := F.same s1
    refine ⟨p, a.C, dx, _, _, rfl, F1.ob, T.cl, T.nSto, ff_sto _ _, ?_⟩
    refine ⟨l, rfl, ⟨_, SqL.of F1.st⟩, for_list (K := K) (a := l) (xs := cI cs) (fun i σ H' => ∃ v : Option V, σ = [some (.ref p), some (.ref r), v] ∧ Same H H' ∧ H' r = some (.lst (cI (lastsL (z.length - 1) (cs.take i)))))
      ⟨none, rfl, s1, ?_⟩ (fun i σ H' _ ⟨_, _, s2, _⟩ => SqL.of (s2 _ _ F.st)) ?_ ?_⟩
    · rw [upd_same, sub1 (show 1 ≤ z.length by have := F.row.1; omega)]
      rfl
    · rintro i v σ H2 hi ⟨_, rfl, s2, hr2⟩
      obtain ⟨c, hc, rfl⟩ := of_cI hi
      show tDrop _ _ _ _
      walk_at "ks"
      have hil : i < cs.length := (List.getElem?_eq_some_iff.mp hc).1
      obtain ⟨ys, ey⟩ := lastsL_last (cs.take i) (z.length - 1)
      refine ⟨.inl ⟨rfl, _, SqL.of hr2⟩, ?_⟩
      walk_at "ks"
      refine ⟨r, _, _, _, rfl, rfl, SqL.of hr2, (show atI _ (-1) = some (.int (lastN (z.length - 1) (cs.take i) : Nat)) by rw [ey, cI_app]; exact atI_last _ _), ?_⟩
      refine s_I (.inl ⟨by decide, by decide⟩) ?_
      walk_at "ks"
      refine ⟨r, _, _, rfl, rfl, hr2, ?_, ?_⟩
      · rw [cI_len, lastsL_len, List.length_take]
        have := F.n
        exact Nat.lt_of_le_of_lt (show _ ≤ 65 by omega) (by decide)
      · refine ⟨some (.int c), rfl, fun b o e => ?_, ?_⟩
        · rw [upd_ne (ne_of_none e hr')]
          exact s2 b o e
        · rw [upd_same, take_snoc hc, lastsL_snoc, cI_app]
          rfl
    · rintro σ H2 ⟨v, rfl, s2, hr2⟩
      walk_at "ks"
      rw [cI_len, List.take_length] at hr2
      exact k H2 r s2 hr' hr2

end
section
variable {P : Program} {w : World} {K : PySem.W.Frag} {mg : Str → Option Value} {base : Heap} {a : Ad}
theorem ok_f_length (T : Tx K mg a) (G_f_lasts : FnOk P w K mg base CX0 1 a.f_lasts.1 a.f_lasts.2 p_f_lasts (sp_f_lasts a.C)) : FnOk P w K mg base CX0 2 a.f_length.1 a.f_length.2 p_f_length (sp_f_length a.C) := by
  refine T.F_f_length.ok sc_f_length (fun vs H Q E h => ?_) (fun cdv A outer s H vs Q E hr h => ?_)
  · obtain ⟨p, dx, l, z, cs, rfl, _⟩ := h
    rfl
  · obtain ⟨p, dx, l, z, cs, rfl, F, k⟩ := h
    refine ⟨_, (pss_one (ps_ret (pe_op op_add (pe_ix ix_list (pe_meth0 (pv 0) T.cl T.m_f_lasts G_f_lasts (hr.mono (by decide)) T.b_f_lasts .nil pass0) (pe_un un_neg pe_int) (fun _ _ => rfl)) pe_int))), ?_⟩
    walk_at "ks"
    refine ⟨p, dx, _, rfl, F.ob, ff_no _ _ (by decide +kernel) (by decide +kernel), ?_⟩
    walk_at "ks"
    refine ⟨p, dx, l, z, cs, rfl, F, fun H1 r s1 hr0 hr1 => ?_⟩
    walk_at "ks"
    obtain ⟨ys, ey⟩ := lastsL_last cs (z.length - 1)
    refine ⟨r, _, _, _, rfl, rfl, SqL.of hr1, (show atI _ (-1) = some (.int (lastN (z.length - 1) cs : Nat)) by rw [ey, cI_app]; exact atI_last _ _), ?_⟩
    walk_at "ks"
    exact k H1 s1
theorem ok_f_check (T : Tx K mg a) (G_f_length : FnOk P w K mg base CX0 2 a.f_length.1 a.f_length.2 p_f_length (sp_f_length a.C)) : FnOk P w K mg base CX0 3 a.f_check.1 a.f_check.2 p_f_check (sp_f_check a.C) := by
  refine T.F_f_check.ok sc_f_check (fun vs H Q E h => ?_) (fun cdv A outer s H vs Q E hr h => ?_)
  · obtain ⟨p, dx, l, z, cs, x, rfl, _⟩ := h
    rfl
  · obtain ⟨p, dx, l, z, cs, x, rfl, F, hx, k⟩ := h
    refine ⟨_, (pss_one (ps_if (pt_not (pt_chain op_le op_lt pe_int (pv 1) (pe_meth0 (pv 0) T.cl T.m_f_length G_f_length (hr.mono (by decide)) T.b_f_length .nil pass0)))
      (pss_one ps_never)
      pss_nil)), ?_⟩
    walk_at "ks"
    refine iteD (by omega) ?_
    walk_at "ks"
    refine ⟨p, dx, _, rfl, F.ob, ff_no _ _ (by decide +kernel) (by decide +kernel), ?_⟩
    walk_at "ks"
    refine ⟨p, dx, l, z, cs, rfl, F, fun H1 s1 => ?_⟩
    walk_at "ks"
    refine iteNS (by omega) ?_
    walk_at "ks"
    exact k H1 s1
theorem ok_f_origins (T : Tx K mg a) (G_f_lasts : FnOk P w K mg base CX0 1 a.f_lasts.1 a.f_lasts.2 p_f_lasts (sp_f_lasts a.C)) (G_f_check : FnOk P w K mg base CX0 3 a.f_check.1 a.f_check.2 p_f_check (sp_f_check a.C))
    (G_shown : FnOk P w K mg base CX0 1 a.shown.1 a.shown.2 p_shown sp_shown) : FnOk P w K mg base CX0 4 a.f_origins.1 a.f_origins.2 p_f_origins (sp_f_origins a.C) := by
  refine T.F_f_origins.ok sc_f_origins (fun vs H Q E h => ?_) (fun cdv A outer s H vs Q E hr h => ?_)
  · obtain ⟨p, dx, l, z, cs, x, rfl, _⟩ := h
    rfl
  · obtain ⟨p, dx, l, z, cs, x, rfl, F, hx, k⟩ := h
    refine ⟨_, (pss_cons (ps_expr (pe_meth (pv 0) T.cl T.m_f_check G_f_check (hr.mono (by decide)) T.b_f_check .nil pass0 (pa_cons (pv 1) pa_nil)))
      (pss_cons (ps_set (i := 2) sc_f_origins.nd rfl (Or.inl rfl) (pe_lst (pa_cons (pv 1) pa_nil)))
      (pss_cons (ps_for PassesOwn.never rfl (pi_list (pe_revL (pe_listZip rfl (by rfl) T.z_list (by rfl) T.z_zip (pa_cons (pe_meth0 (pv 0) T.cl T.m_f_lasts G_f_lasts (hr.mono (by decide)) T.b_f_lasts .nil pass0) (pa_cons (pe_fld (pv 0) rfl) pa_nil))))) (pg_tup rfl (pgs_cons (pg_name (i := 3) sc_f_origins.nd rfl (Or.inl rfl)) (pgs_cons (pg_name (i := 4) sc_f_origins.nd rfl (Or.inl rfl)) pgs_nil)))
      (pss_one (ps_expr (pe_bm PySem.F.plainAttrs_list PySem.F.slot_list_append PySem.F.type_list_append mt_append (pv 2) (pa_cons (pe_call G_shown (hr.mono (by decide)) (by rfl) T.g_shown T.F_shown.kp T.b_shown .nil pass0 (pa_cons (pv 3) (pa_cons (pv 4) (pa_cons (pe_ix ix_list (pv 2) (pe_un un_neg pe_int) (fun _ _ => rfl)) pa_nil)))) pa_nil)))))
      (pss_one (ps_ret (pv 2)))))), ?_⟩
    walk_at "ks"
    refine ⟨p, dx, _, rfl, F.ob, ff_no _ _ (by decide +kernel) (by decide +kernel), ?_⟩
    walk_at "ks"
    refine ⟨p, dx, l, z, cs, x, rfl, F, hx, fun H1 s1 => ?_⟩
    walk_at "ks"
    refine ⟨by show 1 ≤ sizeLine; decide, fun f hf => ?_⟩
    walk_at "ks"
    have F1 := F.same s1
    have s2 : Same H1 (upd H1 f (.lst [.int (x : Nat)])) := same_new hf
    have F2 := F1.same s2
    refine ⟨p, dx, _, rfl, F2.ob, ff_no _ _ (by decide +kernel) (by decide +kernel), ?_⟩
    walk_at "ks"
    refine ⟨p, dx, l, z, cs, rfl, F2, fun H3 r s3 hr0 hr1 => ?_⟩
    walk_at "ks"
    have F3 := F2.same s3
    refine ⟨p, a.C, dx, _, _, rfl, F3.ob, T.cl, T.nSto, ff_sto _ _, ?_⟩
    walk_at "ks"
    refine ⟨r, l, _, _, rfl, SqL.of hr1, SqL.of F3.st, fun q Ts H4 s4 hq hTl hTs hq4 => ?_⟩
    rw [cI_len, cI_len, lastsL_len, Nat.min_eq_right (Nat.le_succ _)] at hTl
    refine ⟨q, _, rfl, SqL.of hq4, fun v hv => ?_⟩
    have hf3 : H3 f = some (.lst [.int (x : Nat)]) := s3 _ _ upd_same
    have hf4 : H4 f = some (.lst [.int (x : Nat)]) := s4 _ _ hf3
    have nfv : f ≠ v := ne_of_none hf4 hv
    have s5 : Same H4 (upd H4 v (.lst (Ts.map V.ref).reverse)) := same_new hv
    refine ⟨v, rfl, ⟨_, SqL.of upd_same⟩, for_list (K := K) (a := v) (xs := (Ts.map V.ref).reverse)
      (fun i σ H' => ∃ (v3 v4 : Option V) (ys : List V), σ = [some (.ref p), some (.int (x : Nat)), some (.ref f), v3, v4] ∧ (∀ b o, (upd H4 v (.lst (Ts.map V.ref).reverse)) b = some o → b ≠ f → H' b = some o) ∧
        H' f = some (.lst (ys ++ [.int (orig (lastN (z.length - 1) (cs.take (cs.length - i))) (cs.drop (cs.length - i)) x : Nat)])) ∧ ys.length = i)
      ⟨none, none, [], rfl, fun _ _ e _ => e, ?_, rfl⟩ (fun i σ H' _ ⟨_, _, _, _, kp, _, _⟩ => SqL.of (kp _ _ upd_same nfv.symm)) ?_ ?_⟩
    · rw [upd_ne nfv, hf4, Nat.sub_zero, List.drop_length]
      rfl
    · rintro i y σ H5 hi ⟨v3, v4, ys, rfl, kp, hf5, hyl⟩
      have hil : i < Ts.length := by
        have := (List.getElem?_eq_some_iff.mp hi).1
        rw [List.length_reverse, List.length_map] at this
        exact this
      have hj : cs.length - 1 - i < cs.length := by omega
      obtain ⟨TT, hTT⟩ : ∃ TT, Ts[cs.length - 1 - i]? = some TT := ⟨_, List.getElem?_eq_getElem (by omega)⟩
      have ey : y = .ref TT := by
        rw [List.getElem?_reverse (by rw [List.length_map]; exact hil), List.length_map, hTl, List.getElem?_map, hTT] at hi
        exact (Option.some.inj hi).symm
      subst ey
      obtain ⟨hT3, xa, ya, hxa, hya, hT4⟩ := hTs _ _ hTT
      rw [cI_at (lastsL_at cs (z.length - 1) (cs.length - 1 - i) (by omega))] at hxa
      rw [cI_at (List.getElem?_eq_getElem hj)] at hya
      cases hxa
      cases hya
      have nTf : TT ≠ f := fun e => by
        rw [e, hf3] at hT3
        cases hT3
      have hT5 := kp _ _ (s5 _ _ hT4) nTf
      refine ⟨TT, _, rfl, SqT.of hT5, rfl, _, _, rfl, _, _, rfl, rfl, ?_⟩
      show tDrop _ _ _ _
      walk_at "ks"
      refine ⟨.inl ⟨rfl, _, SqL.of hf5⟩, ?_⟩
      walk_at "ks"
      refine ⟨f, _, _, _, rfl, rfl, SqL.of hf5, atI_last _ _, ?_⟩
      walk_at "ks"
      refine ⟨_, _, _, rfl, ?_⟩
      walk_at "ks"
      refine ⟨f, _, _, rfl, rfl, hf5, ?_, ?_⟩
      · have := F.n
        rw [List.length_append, hyl]
        exact Nat.lt_of_le_of_lt (show i + 1 ≤ 65 by omega) (by decide)
      · have e1 : cs.length - i = (cs.length - 1 - i) + 1 := by omega
        have e2 : cs.length - (i + 1) = cs.length - 1 - i := by omega
        refine ⟨_, _, ys ++ [.int (orig (lastN (z.length - 1) (cs.take (cs.length - i))) (cs.drop (cs.length - i)) x : Nat)], rfl, fun b o e ne => ?_, ?_, by rw [List.length_append, hyl]; rfl⟩
        · rw [upd_ne ne]
          exact kp b o e ne
        · rw [upd_same, e2, orig_back (List.getElem?_eq_getElem hj), ← e1]
    · rintro σ H5 ⟨v3, v4, ys, rfl, kp, hf5, hyl⟩
      walk_at "ks"
      rw [List.length_reverse, List.length_map, hTl, Nat.sub_self, List.take_zero, List.drop_zero] at hf5
      refine k H5 f ys (fun b o e => ?_) hf5
      have e1 := s1 _ _ e
      exact kp b o (s5 _ _ (s4 _ _ (s3 _ _ (s2 _ _ e1)))) (ne_of_none e1 hf)
theorem ok_f_letter (T : Tx K mg a) (G_f_origins : FnOk P w K mg base CX0 4 a.f_origins.1 a.f_origins.2 p_f_origins (sp_f_origins a.C)) : FnOk P w K mg base CX0 5 a.f_letter.1 a.f_letter.2 p_f_letter (sp_f_letter a.C) := by
  refine T.F_f_letter.ok sc_f_letter (fun vs H Q E h => ?_) (fun cdv A outer s H vs Q E hr h => ?_)
  · obtain ⟨p, dx, l, z, cs, x, rfl, _⟩ := h
    rfl
  · obtain ⟨p, dx, l, z, cs, x, rfl, F, hx, k⟩ := h
    refine ⟨_, (pss_one (ps_ret (pe_ix ix_str (pe_fld (pv 0) rfl) (pe_ix ix_list (pe_meth (pv 0) T.cl T.m_f_origins G_f_origins (hr.mono (by decide)) T.b_f_origins .nil pass0 (pa_cons (pv 1) pa_nil)) (pe_un un_neg pe_int) (fun _ _ => rfl)) (fun _ _ => rfl)))), ?_⟩
    walk_at "ks"
    refine ⟨p, a.C, dx, _, _, rfl, F.ob, T.cl, T.nRow, ff_row _ _, ?_⟩
    walk_at "ks"
    refine ⟨p, dx, _, rfl, F.ob, ff_no _ _ (by decide +kernel) (by decide +kernel), ?_⟩
    walk_at "ks"
    refine ⟨p, dx, l, z, cs, x, rfl, F, hx, fun H1 r ys s1 hr1 => ?_⟩
    walk_at "ks"
    refine ⟨r, _, _, _, rfl, rfl, SqL.of hr1, atI_last _ _, ?_⟩
    refine ⟨z, _, letN (tl z) cs x, rfl, rfl, F.row.fits, atI_nat (letN_at (by have := F.row.1; omega) F.ok hx), ?_⟩
    exact k H1 s1
theorem ok_f_called (T : Tx K mg a) (G_f_init : FnOk P w K mg base CX0 4 a.f_init.1 a.f_init.2 p_f_init (sp_f_init a.C)) (G_f_letter : FnOk P w K mg base CX0 5 a.f_letter.1 a.f_letter.2 p_f_letter (sp_f_letter a.C)) :
    FnOk P w K mg base CX0 6 a.f_called.1 a.f_called.2 p_f_called (sp_f_called a.C) := by
  refine T.F_f_called.ok sc_f_called (fun vs H Q E h => ?_) (fun cdv A outer s H vs Q E hr h => ?_)
  · obtain ⟨p, dx, l, z, cs, rfl, _⟩ := h
    rfl
  · obtain ⟨p, dx, l, z, cs, rfl, F, k⟩ := h
    refine ⟨_, (pss_cons (ps_set (i := 1) sc_f_called.nd rfl (Or.inl rfl) (pe_lst pa_nil))
      (pss_cons (ps_for PassesOwn.never rfl (pi_enum (by rfl) T.z_enumerate (pa_cons (pe_fld (pv 0) rfl) pa_nil)) (pg_tup rfl (pgs_cons (pg_name (i := 2) sc_f_called.nd rfl (Or.inl rfl)) (pgs_cons (pg_name (i := 3) sc_f_called.nd rfl (Or.inl rfl)) pgs_nil)))
      (pss_one (ps_expr (pe_bm PySem.F.plainAttrs_list PySem.F.slot_list_append PySem.F.type_list_append mt_append (pv 1) (pa_cons (pe_meth (pe_make T.mkFar G_f_init (hr.mono (by decide)) (by rfl) T.g_Far T.b_f_init .nil pass0 (pa_cons (pe_fld (pv 0) rfl) (pa_cons (pe_slice sl_list (pe_fld (pv 0) rfl) po_none (po_some (pv 2))) pa_nil))) T.cl T.m_f_letter G_f_letter (hr.mono (by decide)) T.b_f_letter .nil pass0 (pa_cons (pv 3) pa_nil)) pa_nil)))))
      (pss_one (ps_ret (pe_join pe_str (pv 1)))))), ?_⟩
    walk_at "ks"
    refine ⟨Nat.zero_le _, fun f hf => ?_⟩
    walk_at "ks"
    have s1 : Same H (upd H f (.lst [])) := same_new hf
    have F1 := F.same s1
    refine ⟨p, a.C, dx, _, _, rfl, F1.ob, T.cl, T.nSto, ff_sto _ _, ?_⟩
    walk_at "ks"
    refine ⟨l, _, rfl, SqL.of F1.st, for_it (walk_enum (K := K) (a := l) (xs := cI cs)) (fun i σ H' => ∃ v2 v3 : Option V, σ = [some (.ref p), some (.ref f), v2, v3] ∧ Same H H' ∧ H' f = some (.lst (sgs (calledL (tl z) cs i))))
      ⟨none, none, rfl, s1, upd_same⟩ (fun i σ H' _ ⟨_, _, _, s2, _⟩ => SqL.of (s2 _ _ F.st)) ?_ ?_⟩
    · rintro i y σ H2 H2' hi ⟨v2, v3, rfl, s2, hf2⟩ ⟨TT, xa, ya, rfl, hT, rfl, hxa, hya⟩
      cases hxa
      obtain ⟨c, hc, rfl⟩ := of_cI hya
      have nTf : f ≠ TT := ne_of_none hf2 hT
      have sT : Same H2 (upd H2 TT (.tup [.int (i : Nat), .int (c : Nat)])) := same_new hT
      refine ⟨TT, _, rfl, SqT.of upd_same, rfl, _, _, rfl, _, _, rfl, rfl, ?_⟩
      show tDrop _ _ _ _
      walk_at "ks"
      have hf3 := sT _ _ hf2
      have F3 := (F.same s2).same sT
      refine ⟨.inl ⟨rfl, _, SqL.of hf3⟩, ?_⟩
      walk_at "ks"
      refine ⟨p, a.C, dx, _, _, rfl, F3.ob, T.cl, T.nRow, ff_row _ _, ?_⟩
      walk_at "ks"
      refine ⟨p, a.C, dx, _, _, rfl, F3.ob, T.cl, T.nSto, ff_sto _ _, ?_⟩
      walk_at "ks"
      refine ⟨_, rfl, l, _, rfl, SqL.of F3.st, fun q hq => ?_⟩
      rw [cut_to]
      walk_at "ks"
      intro n dn hn hdn nn
      have s3 : Same _ _ := same_new (o := .lst (cI (cs.take i))) hq
      refine ⟨n, dn, q, z, cs.take i, rfl, upd_same, F.row, ?_, by rw [List.length_take]; have := F.n; omega, okS_take _ _ _ F.ok, fun H5 l5 kp F5 => ⟨rfl, ?_⟩⟩
      · rw [upd_ne (fun e => by rw [← e, upd_same] at hn; cases hn), upd_ne (fun e => by rw [← e, upd_same] at hdn; cases hdn), upd_same]
      have s5 := made_same hn hdn kp
      refine ⟨n, dn, _, rfl, F5.ob, ff_no _ _ (by decide +kernel) (by decide +kernel), ?_⟩
      walk_at "ks"
      refine ⟨n, dn, l5, z, cs.take i, c, rfl, F5, okS_at _ _ _ _ F.ok hc, fun H6 s6 => ?_⟩
      walk_at "ks"
      have hf6 := s6 _ _ (s5 _ _ (s3 _ _ hf3))
      refine ⟨f, _, _, rfl, rfl, hf6, ?_, ?_⟩
      · have := (List.getElem?_eq_some_iff.mp hc).1
        have := F.n
        rw [List.length_map, calledL_len]
        exact Nat.lt_of_le_of_lt (show i ≤ 64 by omega) (by decide)
      · refine ⟨_, _, rfl, fun b o e => ?_, ?_⟩
        · rw [upd_ne (ne_of_none e hf)]
          exact s6 _ _ (s5 _ _ (s3 _ _ (sT _ _ (s2 _ _ e))))
        · have eg : cs.getD i 0 = c := by simp [List.getD, hc]
          rw [upd_same, calledL_succ, sgs_snoc, eg]
    · rintro σ H2 ⟨v2, v3, rfl, s2, hf2⟩
      walk_at "ks"
      refine ⟨⟨_, rfl⟩, ?_⟩
      walk_at "ks"
      have he : tl ("" : Str) = [] := by decide +kernel
      rw [cI_len, sgs_eq] at hf2
      refine ⟨_, f, _, rfl, rfl, .inl (SqL.of hf2), join_size _ he _ (by rw [calledL_len]; have := F.n; omega), ?_⟩
      exact k H2 _ s2 (join_sg _ he _)

end
section
variable {P : Program} {w : World} {K : PySem.W.Frag} {mg : Str → Option Value} {base : Heap} {a : Ad}
theorem ok_places_apart (T : Tx K mg a) : FnOk P w K mg base CX0 1 a.places_apart.1 a.places_apart.2 p_places_apart sp_places_apart := by
  refine T.F_places_apart.ok sc_places_apart (fun vs H Q E h => ?_) (fun cdv A outer s H vs Q E hr h => ?_)
  · obtain ⟨z, u, rfl, _⟩ := h
    rfl
  · obtain ⟨z, u, rfl, hz, hu, k⟩ := h
    have fz : z.length ≤ sizeLine := Nat.le_trans hz (by decide)
    refine ⟨_, (pss_one (ps_ret (pe_lc (own := [("place", 2)]) (g := gName 2) rfl sc_places_apart.nd (pi_range1 (by rfl) T.z_range (pa_cons (pe_callB call_len_str (by rfl) T.z_len PySem.boot_len (pa_cons (pv 0) pa_nil)) pa_nil)) (blkOk_by (own := [("place", 2)]) (N := n_places_apart) (sc := defScope s_places_apart) (by decide +kernel)) (fun _ _ _ _ _ => pg_name (i := 2) sc_places_apart.nd rfl (Or.inl rfl)) (fun _ _ _ _ _ => (pts_one (pt_cmpR op_ne (pe_ix ix_str (pv 0) (pv 2) (fun _ _ => rfl)) (pe_ix ix_str (pv 1) (pv 2) (fun _ _ => rfl)) (nomark _)))) (fun _ _ _ _ _ => (pv 2))))), ?_⟩
    walk_at "ks"
    refine ⟨z, rfl, fz, ?_⟩
    walk_at "ks"
    refine ⟨_, rfl, by omega, by omega, fun D hD => lc_range (lo := 0) (n := z.length) (fun i H' => Same H H' ∧ H' D = some (.lst (cI (apart (tl z) (tl u) i)))) ⟨same_new hD, upd_same⟩ (fun i H1 hi p => ?_) (fun H1 p => k H1 D p.1 hD p.2)⟩
    obtain ⟨p1, p2⟩ := p
    refine ⟨rfl, ?_⟩
    walk_at "ks"
    refine ⟨z, _, _, rfl, rfl, fz, (by rw [Int.zero_add]; exact atI_nat (tl_at hi)), ?_⟩
    walk_at "ks"
    refine ⟨u, _, _, rfl, rfl, by rw [hu]; exact fz, (by rw [Int.zero_add]; exact atI_nat (tl_at (z := u) (by omega))), ?_⟩
    walk_at "ks"
    have hs := apart_succ (tl z) (tl u) i
    by_cases e : (tl z).getD i 0 = (tl u).getD i 0
    · rw [decide_eq_true (sg_eq.mpr e)]
      refine iteF ⟨p1, ?_⟩
      rw [hs, if_neg (by rw [e]; simp), List.append_nil]
      exact p2
    · rw [decide_eq_false (fun q => e (sg_eq.mp q))]
      refine iteT ?_
      walk_at "ks"
      refine ⟨_, p2, ?_, fun b o q => ?_, ?_⟩
      · rw [cI_len]
        exact Nat.lt_of_le_of_lt (Nat.le_trans (apart_len _ _ _) (by omega : i ≤ 1000)) (by decide)
      · rw [upd_ne (ne_of_none q hD)]
        exact p1 b o q
      · rw [upd_same, hs, if_pos (by simpa using e), cI_app, Int.zero_add]
theorem ok_first_difference (T : Tx K mg a) (G_places_apart : FnOk P w K mg base CX0 1 a.places_apart.1 a.places_apart.2 p_places_apart sp_places_apart) :
    FnOk P w K mg base CX0 2 a.first_difference.1 a.first_difference.2 p_first_difference sp_first_difference := by
  refine T.F_first_difference.ok sc_first_difference (fun vs H Q E h => ?_) (fun cdv A outer s H vs Q E hr h => ?_)
  · obtain ⟨z, u, b, cs, d, rfl, _⟩ := h
    rfl
  · obtain ⟨z, u, b, cs, d, rfl, hz, hu, hb, hd, k⟩ := h
    refine ⟨_, (pss_cons (ps_set (i := 3) sc_first_difference.nd rfl (Or.inl rfl) (pe_ix ix_list (pe_call G_places_apart (hr.mono (by decide)) (by rfl) T.g_places_apart T.F_places_apart.kp T.b_places_apart .nil pass0 (pa_cons (pv 0) (pa_cons (pv 1) pa_nil))) pe_int (fun _ _ => rfl)))
      (pss_cons (ps_for PassesOwn.never rfl (pi_list (pv 2)) (pg_name (i := 4) sc_first_difference.nd rfl (Or.inl rfl))
      (pss_one (ps_set (i := 3) sc_first_difference.nd rfl (Or.inl rfl) (pe_ifExp (pt_cmpR op_lt (pv 3) (pv 4) (nomark _)) (pv 3) (pe_op op_add (pv 3) (pv 4))))))
      (pss_one (ps_ret (pv 3))))), ?_⟩
    walk_at "ks"
    refine ⟨z, u, rfl, hz, hu, fun H1 r s1 hr0 hr1 => ?_⟩
    walk_at "ks"
    refine ⟨r, _, 0, _, rfl, rfl, SqL.of hr1, atI_nat (j := 0) (cI_at hd), ?_⟩
    walk_at "ks"
    have hb1 := s1 _ _ hb
    refine ⟨b, rfl, ⟨_, SqL.of hb1⟩, for_list (K := K) (a := b) (xs := cI cs) (fun i σ H' => ∃ v : Option V, σ = [some (.str z), some (.str u), some (.ref b), some (.int (firstD d (cs.take i) : Nat)), v] ∧ H' = H1)
      ⟨none, rfl, rfl⟩ (fun i σ H' _ ⟨_, _, e⟩ => by rw [e]; exact SqL.of hb1) ?_ ?_⟩
    · rintro i v σ H' hi ⟨_, rfl, rfl⟩
      obtain ⟨c, hc, rfl⟩ := of_cI hi
      show tAsg _ _ _ _ _
      have e1 := firstD_snoc c (cs.take i) d
      rw [← take_snoc hc] at e1
      have e2 := st1_spec (firstD d (cs.take i)) c
      walk_at "ks"
      refine ite2 (fun e => ?_) (fun e => ?_)
      · have e := of_decide_eq_true e
        walk_at "ks"
        refine ⟨some (.int (c : Nat)), ?_, rfl⟩
        rw [show firstD d (cs.take (i + 1)) = firstD d (cs.take i) by omega]
        rfl
      · have e : ¬ ((firstD d (cs.take i) : Nat) : Int) < c := fun q => e (decide_eq_true q)
        walk_at "ks"
        refine ⟨some (.int (c : Nat)), ?_, rfl⟩
        rw [show ((firstD d (cs.take (i + 1)) : Nat) : Int) = (firstD d (cs.take i) : Nat) + c by omega]
        rfl
    · rintro σ H' ⟨v, rfl, rfl⟩
      walk_at "ks"
      rw [cI_len, List.take_length]
      exact k _ s1
theorem ok_last_difference (T : Tx K mg a) (G_places_apart : FnOk P w K mg base CX0 1 a.places_apart.1 a.places_apart.2 p_places_apart sp_places_apart) :
    FnOk P w K mg base CX0 2 a.last_difference.1 a.last_difference.2 p_last_difference sp_last_difference := by
  refine T.F_last_difference.ok sc_last_difference (fun vs H Q E h => ?_) (fun cdv A outer s H vs Q E hr h => ?_)
  · obtain ⟨z, u, b, cs, ys, d, rfl, _⟩ := h
    rfl
  · obtain ⟨z, u, b, cs, ys, d, rfl, h1, hz, hu, hb, hd, k⟩ := h
    refine ⟨_, (pss_cons (ps_par (i := 3) (j := 4) (by rfl) sc_last_difference.nd rfl rfl (by decide) rfl rfl (pa_cons (pe_ix ix_list (pe_call G_places_apart (hr.mono (by decide)) (by rfl) T.g_places_apart T.F_places_apart.kp T.b_places_apart .nil pass0 (pa_cons (pv 0) (pa_cons (pv 1) pa_nil))) (pe_un un_neg pe_int) (fun _ _ => rfl)) (pa_cons (pe_op op_sub (pe_callB call_len_str (by rfl) T.z_len PySem.boot_len (pa_cons (pv 0) pa_nil)) pe_int) pa_nil)) (by rfl))
      (pss_cons (ps_for PassesOwn.never rfl (pi_list (pv 2)) (pg_name (i := 5) sc_last_difference.nd rfl (Or.inl rfl))
      (pss_cons (ps_set (i := 3) sc_last_difference.nd rfl (Or.inl rfl) (pe_ifExp (pt_cmpR op_le (pv 3) (pv 5) (nomark _)) (pe_op op_add (pv 3) (pv 5)) (pe_op op_add (pv 3) (pv 4))))
      (pss_one (ps_set (i := 4) sc_last_difference.nd rfl (Or.inl rfl) (pe_op op_mul pe_int (pv 4))))))
      (pss_one (ps_ret (pv 3))))), ?_⟩
    walk_at "ks"
    refine ⟨z, u, rfl, hz, hu, fun H1 r s1 hr0 hr1 => ?_⟩
    walk_at "ks"
    refine ⟨r, _, _, _, rfl, rfl, SqL.of hr1, (by rw [hd, cI_app]; exact atI_last _ _), ?_⟩
    walk_at "ks"
    refine ⟨z, rfl, Nat.le_trans hz (by decide), ?_⟩
    walk_at "ks"
    refine ⟨_, _, rfl, ?_⟩
    walk_at "ks"
    have hb1 := s1 _ _ hb
    refine ⟨b, rfl, ⟨_, SqL.of hb1⟩, for_list (K := K) (a := b) (xs := cI cs) (fun i σ H' => ∃ v : Option V, σ = [some (.str z), some (.str u), some (.ref b), some (.int (lastD d (z.length - 1) (cs.take i) : Nat)), some (.int (lastN (z.length - 1) (cs.take i) : Nat)), v] ∧ H' = H1)
      ⟨none, by rw [sub1 h1]; rfl, rfl⟩ (fun i σ H' _ ⟨_, _, e⟩ => by rw [e]; exact SqL.of hb1) ?_ ?_⟩
    · rintro i v σ H' hi ⟨_, rfl, rfl⟩
      obtain ⟨c, hc, rfl⟩ := of_cI hi
      show tSeq _ _ _ _ _
      have e1 := lastD_snoc c (cs.take i) d (z.length - 1)
      have e3 := lastN_snoc c (cs.take i) (z.length - 1)
      rw [← take_snoc hc] at e1 e3
      have e2 := st2_spec (lastD d (z.length - 1) (cs.take i)) c (lastN (z.length - 1) (cs.take i))
      walk_at "ks"
      refine ite2 (fun e => ?_) (fun e => ?_)
      · have e := of_decide_eq_true e
        walk_at "ks"
        refine s_I (.inl ⟨by decide, by decide⟩) ?_
        refine ⟨some (.int (c : Nat)), ?_, rfl⟩
        rw [show ((lastD d (z.length - 1) (cs.take (i + 1)) : Nat) : Int) = (lastD d (z.length - 1) (cs.take i) : Nat) + c by omega, show ((lastN (z.length - 1) (cs.take (i + 1)) : Nat) : Int) = 2 * (lastN (z.length - 1) (cs.take i) : Nat) by omega]
        rfl
      · have e : ¬ ((lastD d (z.length - 1) (cs.take i) : Nat) : Int) ≤ c := fun q => e (decide_eq_true q)
        walk_at "ks"
        refine s_I (.inl ⟨by decide, by decide⟩) ?_
        refine ⟨some (.int (c : Nat)), ?_, rfl⟩
        rw [show ((lastD d (z.length - 1) (cs.take (i + 1)) : Nat) : Int) = (lastD d (z.length - 1) (cs.take i) : Nat) + (lastN (z.length - 1) (cs.take i) : Nat) by omega, show ((lastN (z.length - 1) (cs.take (i + 1)) : Nat) : Int) = 2 * (lastN (z.length - 1) (cs.take i) : Nat) by omega]
        rfl
    · rintro σ H' ⟨v, rfl, rfl⟩
      walk_at "ks"
      rw [cI_len, List.take_length]
      exact k _ s1
theorem ok_differences (T : Tx K mg a) (G_places_apart : FnOk P w K mg base CX0 1 a.places_apart.1 a.places_apart.2 p_places_apart sp_places_apart) (G_f_init : FnOk P w K mg base CX0 4 a.f_init.1 a.f_init.2 p_f_init (sp_f_init a.C))
    (G_f_called : FnOk P w K mg base CX0 6 a.f_called.1 a.f_called.2 p_f_called (sp_f_called a.C)) : FnOk P w K mg base CX0 7 a.differences.1 a.differences.2 p_differences sp_differences := by
  refine T.F_differences.ok sc_differences (fun vs H Q E h => ?_) (fun cdv A outer s H vs Q E hr h => ?_)
  · obtain ⟨z, u, b, cs, rfl, _⟩ := h
    rfl
  · obtain ⟨z, u, b, cs, rfl, rz, ru, hu, hb, hn, ok, k⟩ := h
    refine ⟨_, (pss_cons (ps_set (i := 3) sc_differences.nd rfl (Or.inl rfl) (pe_callB call_len_seq (by rfl) T.z_len PySem.boot_len (pa_cons (pe_call G_places_apart (hr.mono (by decide)) (by rfl) T.g_places_apart T.F_places_apart.kp T.b_places_apart .nil pass0 (pa_cons (pv 0) (pa_cons (pv 1) pa_nil))) pa_nil)))
      (pss_cons (ps_for PassesOwn.never rfl (pi_zipS (by rfl) T.z_zip (pa_cons (pe_meth0 (pe_make T.mkFar G_f_init (hr.mono (by decide)) (by rfl) T.g_Far T.b_f_init .nil pass0 (pa_cons (pv 0) (pa_cons (pv 2) pa_nil))) T.cl T.m_f_called G_f_called (hr.mono (by decide)) T.b_f_called .nil pass0) (pa_cons (pe_meth0 (pe_make T.mkFar G_f_init (hr.mono (by decide)) (by rfl) T.g_Far T.b_f_init .nil pass0 (pa_cons (pv 1) (pa_cons (pv 2) pa_nil))) T.cl T.m_f_called G_f_called (hr.mono (by decide)) T.b_f_called .nil pass0) pa_nil))) (pg_tup rfl (pgs_cons (pg_name (i := 4) sc_differences.nd rfl (Or.inl rfl)) (pgs_cons (pg_name (i := 5) sc_differences.nd rfl (Or.inl rfl)) pgs_nil)))
      (pss_one (ps_set (i := 3) sc_differences.nd rfl (Or.inl rfl) (pe_op op_sub (pe_op op_mul pe_int (pv 3)) (pe_callTy call_int1 (by rfl) T.z_int (by decide +kernel) (pa_cons (pe_cmpR op_ne (pv 4) (pv 5) (nomark _)) pa_nil))))))
      (pss_one (ps_ret (pv 3))))), ?_⟩
    walk_at "ks"
    refine ⟨z, u, rfl, rz.2.1, hu, fun H1 r s1 hr0 hr1 => ?_⟩
    walk_at "ks"
    refine ⟨r, _, rfl, .inl (SqL.of hr1), ?_⟩
    walk_at "ks"
    intro n dn hn0 hdn nn
    have hb1 := s1 _ _ hb
    refine ⟨n, dn, b, z, cs, rfl, upd_same, rz, ?_, hn, ok, fun H2 l2 kp F2 => ⟨rfl, ?_⟩⟩
    · rw [upd_ne (ne_of_none hb1 hn0), upd_ne (ne_of_none hb1 hdn)]
      exact hb1
    have s2 := made_same hn0 hdn kp
    refine ⟨n, dn, _, rfl, F2.ob, ff_no _ _ (by decide +kernel) (by decide +kernel), ?_⟩
    walk_at "ks"
    refine ⟨n, dn, l2, z, cs, rfl, F2, fun H3 u1 s3 hu1 => ?_⟩
    walk_at "ks"
    intro n' dn' hn0' hdn' nn'
    have hb3 := s3 _ _ (s2 _ _ hb1)
    refine ⟨n', dn', b, u, cs, rfl, upd_same, ru, ?_, hn, by rw [hu]; exact ok, fun H4 l4 kp' F4 => ⟨rfl, ?_⟩⟩
    · rw [upd_ne (ne_of_none hb3 hn0'), upd_ne (ne_of_none hb3 hdn')]
      exact hb3
    have s4 := made_same hn0' hdn' kp'
    refine ⟨n', dn', _, rfl, F4.ob, ff_no _ _ (by decide +kernel) (by decide +kernel), ?_⟩
    walk_at "ks"
    refine ⟨n', dn', l4, u, cs, rfl, F4, fun H5 u2 s5 hu2 => ?_⟩
    walk_at "ks"
    have l1 : u1.cps.size = cs.length := by
      have e := congrArg List.length hu1
      rw [calledL_len, ← len_tl] at e
      exact e
    have l2' : u2.cps.size = cs.length := by
      have e := congrArg List.length hu2
      rw [calledL_len, ← len_tl] at e
      exact e
    have at1 : ∀ {x : Str} {r : List Nat} {i c : Nat}, tl x = calledL r cs cs.length → x.cps[i]? = some c → c = letN r (cs.take i) (cs.getD i 0) := fun {x r i c} e h => by
      have h2 : (tl x)[i]? = some c := by rw [← h]; exact Array.getElem?_toList
      rw [e] at h2
      unfold calledL at h2
      rw [List.getElem?_map] at h2
      cases q : (List.range cs.length)[i]? with
      | none => rw [q] at h2; cases h2
      | some j =>
        have hj := List.getElem?_eq_some_iff.mp q
        obtain ⟨hj1, hj2⟩ := hj
        rw [List.getElem_range] at hj2
        subst hj2
        rw [q] at h2
        exact (Option.some.inj h2).symm
    have s6 : Same H H5 := (((s1.trans s2).trans s3).trans s4).trans s5
    refine ⟨u1, u2, rfl, walk_zipS (by rw [l1, l2']) (fun i σ H' => ∃ v4 v5 : Option V, σ = [some (.str z), some (.str u), some (.ref b), some (.int (numF (tl z) (tl u) cs i)), v4, v5] ∧ Same H H') ⟨none, none, ?_, s6⟩ ?_ ?_⟩
    · rw [cI_len, show numF (tl z) (tl u) cs 0 = ((apart (tl z) (tl u) z.length).length : Nat) by rw [len_tl]; rfl]
      rfl
    · rintro i TT c d σ H6 hc hd hT ⟨v4, v5, rfl, s7⟩
      have e1 := at1 hu1 hc
      have e2 := at1 hu2 hd
      refine ⟨TT, _, rfl, SqT.of upd_same, rfl, _, _, rfl, _, _, rfl, rfl, ?_⟩
      show tAsg _ _ _ _ _
      walk_at "ks"
      refine s_I (.inl ⟨by decide, by decide⟩) ?_
      walk_at "ks"
      refine .inr ⟨_, rfl, ?_⟩
      walk_at "ks"
      refine ⟨some (.str (sg c)), some (.str (sg d)), ?_, s7.trans (same_new hT)⟩
      have es : numF (tl z) (tl u) cs (i + 1) = 2 * numF (tl z) (tl u) cs i - (if (!decide (V.str (sg c) = V.str (sg d))) = true then 1 else 0) := by
        show 2 * numF (tl z) (tl u) cs i - (if letN (tl z) (cs.take i) (cs.getD i 0) ≠ letN (tl u) (cs.take i) (cs.getD i 0) then (1 : Int) else 0) = _
        rw [← e1, ← e2]
        by_cases q : c = d
        · rw [if_neg (by simpa using q), decide_eq_true (sg_eq.mpr q)]
          rfl
        · rw [if_pos q, decide_eq_false (fun h => q (sg_eq.mp h))]
          rfl
      rw [es]
      rfl
    · rintro σ H6 ⟨v4, v5, rfl, s7⟩
      walk_at "ks"
      rw [l1]
      exact k _ s7

end
section
variable {P : Program} {w : World} {K : PySem.W.Frag} {mg : Str → Option Value} {base : Heap} {a : Ad}
theorem ok_l_take (T : Tx K mg a) : FnOk P w K mg base CX0 1 a.l_take.1 a.l_take.2 p_l_take sp_l_take := by
  refine T.F_l_take.ok sc_l_take (fun vs H Q E h => ?_) (fun cdv A outer s H vs Q E hr h => ?_)
  · obtain ⟨b, m, rfl, _⟩ := h
    rfl
  · obtain ⟨b, m, rfl, B, m0, m1, k⟩ := h
    refine ⟨_, (pss_cons (ps_if (pt_cmpR op_eq (pe_ix ix_list (pv 0) pe_int (fun _ _ => rfl)) pe_int (nomark _))
      (pss_cons (ps_set (i := 2) sc_l_take.nd rfl (Or.inl rfl) pe_int)
      (pss_cons (ps_if (pt_cmpR op_lt (pe_ix ix_list (pv 0) pe_int (fun _ _ => rfl)) (pe_callB call_len_seq (by rfl) T.z_len PySem.boot_len (pa_cons (pe_ix ix_list (pv 0) pe_int (fun _ _ => rfl)) pa_nil)) (nomark _))
      (pss_one (ps_set (i := 2) sc_l_take.nd rfl (Or.inl rfl) (pe_ix ix_list (pe_ix ix_list (pv 0) pe_int (fun _ _ => rfl)) (pe_ix ix_list (pv 0) pe_int (fun _ _ => rfl)) (fun _ _ => rfl))))
      pss_nil)
      (pss_cons (ps_augS (pv 0) pe_int get_list pe_int ip_add set_list)
      (pss_cons (ps_if (pt_cmpR op_ge (pv 2) pe_int (nomark _))
      (pss_one (ps_asg (pv 2) (pg_sub (pv 0) pe_int set_list)))
      pss_nil)
      (pss_one (ps_asg (pe_op op_mod (pe_op op_add (pe_op op_add (pe_op op_mul (pe_ix ix_list (pv 0) pe_int (fun _ _ => rfl)) pe_int) (pe_op op_mod (pv 2) pe_int)) (pe_op op_mul pe_int (pe_ix ix_list (pv 0) pe_int (fun _ _ => rfl)))) pe_int) (pg_sub (pv 0) pe_int set_list)))))))
      pss_nil)
      (pss_cons (ps_if (pt_cmpR op_gt (pe_ix ix_list (pv 0) pe_int (fun _ _ => rfl)) pe_int (nomark _))
      (pss_cons (ps_set (i := 3) sc_l_take.nd rfl (Or.inl rfl) (pe_op op_mod (pe_ix ix_list (pv 0) pe_int (fun _ _ => rfl)) (pv 1)))
      (pss_cons (ps_asg (pe_op op_fdivW (pe_ix ix_list (pv 0) pe_int (fun _ _ => rfl)) (pv 1)) (pg_sub (pv 0) pe_int set_list))
      (pss_one (ps_ret (pv 3)))))
      pss_nil)
      (pss_cons (ps_set (i := 4) sc_l_take.nd rfl (Or.inl rfl) (pe_op op_mod (pe_op op_mul (pe_op op_add (pe_ix ix_list (pv 0) pe_int (fun _ _ => rfl)) pe_int) pe_int) pe_int))
      (pss_cons (ps_set (i := 5) sc_l_take.nd rfl (Or.inl rfl) (pe_op op_mod (pe_op op_mul (pe_op op_mod (pe_op op_mul (pv 4) (pv 4)) pe_int) pe_int) pe_int))
      (pss_cons (ps_if (pt_cmpR op_gt (pv 1) pe_int (nomark _))
      (pss_one (ps_ret (pe_op op_mod (pe_op op_add (pe_op op_mul (pv 5) pe_int) (pv 4)) (pv 1))))
      pss_nil)
      (pss_one (ps_ret (pe_op op_mod (pe_op op_fdiv (pv 5) pe_int) (pv 1))))))))), ?_⟩
    refine s_seqK (fun σ H' => (∃ h m' i c ns, BagW H' b h m' i c ns) ∧ Rel b H H' ∧ ∃ v : Option V, σ = [some (.ref b), some (.int m), v, none, none, none]) ?_ ?_
    · rintro σ H1 ⟨⟨h, m', i, c, ns, W⟩, r1, v2, rfl⟩
      walk_at "ks"
      refine s_bagR W.ob rfl ?_
      walk_at "ks"
      refine ite2 (fun e => ?_) (fun e => ?_)
      · have e := of_decide_eq_true e
        walk_at "ks"
        refine s_bagR W.ob rfl ?_
        walk_at "ks"
        refine s_I m0 ?_
        walk_at "ks"
        refine s_bagR W.ob rfl ?_
        walk_at "ks"
        refine s_I (wide_div m0 (show m.natAbs < 2 ^ 200 by omega) (by decide) (by decide)) ?_
        walk_at "ks"
        refine s_setL (j := 0) W.ob rfl ?_
        walk_at "ks"
        exact k _ _ (Int.emod_nonneg _ (by omega)) (Int.emod_lt_of_pos _ m0) (r1.put W W.i0)
      · walk_at "ks"
        refine s_bagR W.ob rfl ?_
        walk_at "ks"
        refine s_I (.inr ⟨by decide, by decide⟩) ?_
        walk_at "ks"
        refine s_I (by decide) ?_
        walk_at "ks"
        generalize hf : (m' + 1) * 39373 % 1000000007 = f
        have f0 : 0 ≤ f := by omega
        have f1 : f < 1000000007 := by omega
        refine s_I (.inl ⟨by omega, by omega⟩) ?_
        walk_at "ks"
        refine s_I (by decide) ?_
        walk_at "ks"
        refine s_I (.inr ⟨by decide, by decide⟩) ?_
        walk_at "ks"
        refine s_I (by decide) ?_
        walk_at "ks"
        refine ite2 (fun e => ?_) (fun e => ?_)
        · walk_at "ks"
          refine s_I (.inr ⟨by decide, by decide⟩) ?_
          walk_at "ks"
          refine s_I m0 ?_
          walk_at "ks"
          exact k _ _ (Int.emod_nonneg _ (by omega)) (Int.emod_lt_of_pos _ m0) r1
        · walk_at "ks"
          refine s_I ⟨by decide, by decide⟩ ?_
          walk_at "ks"
          refine s_I m0 ?_
          walk_at "ks"
          exact k _ _ (Int.emod_nonneg _ (by omega)) (Int.emod_lt_of_pos _ m0) r1
    · intro N hN
      obtain ⟨h, m', i, c, ns, W⟩ := B
      walk_at "ks"
      refine s_bagR W.ob rfl ?_
      walk_at "ks"
      refine ite2 (fun e => ?_) (fun e => ?_)
      · walk_at "k68"
        walk_at "k68"
        walk_at "k68"
        with_reducible refine s_seqK (fun σ H' => H' = H ∧ ∃ x : Int, σ = [some (.ref b), some (.int m), some (.int x), none, none, none]) ?_ ?_
        · rintro σ H1 ⟨rfl, x, rfl⟩
          walk_at "ks"
          refine s_bagG (k := 2) W.ob rfl ?_
          walk_at "ks"
          refine s_setL (j := 2) W.ob rfl ?_
          have W1 : BagW (upd H1 b (.lst [.int h, .int m', .int (i + 1), .ref c])) b h m' (i + 1) c ns := W.put (by have := W.i0; omega)
          have r1 : Rel b H1 (upd H1 b (.lst [.int h, .int m', .int (i + 1), .ref c])) := (Rel.refl W.bag).put W (by have := W.i0; omega)
          with_reducible refine s_seqK (fun σ H' => (∃ h', BagW H' b h' m' (i + 1) c ns) ∧ Rel b H1 H' ∧ σ = [some (.ref b), some (.int m), some (.int x), none, none, none]) ?_ ?_
          · rintro σ H2 ⟨⟨h', W2⟩, r2, rfl⟩
            walk_at "ks"
            refine s_bagR W2.ob rfl ?_
            walk_at "ks"
            refine s_I (.inr ⟨by decide, by decide⟩) ?_
            walk_at "ks"
            refine s_I (by decide) ?_
            walk_at "ks"
            refine s_bagR W2.ob rfl ?_
            walk_at "ks"
            refine s_I (.inl ⟨by decide, by decide⟩) ?_
            walk_at "ks"
            refine s_I (by decide) ?_
            walk_at "ks"
            refine s_setL (j := 1) W2.ob rfl ?_
            exact hN _ _ ⟨⟨_, _, _, _, _, W2.put W2.i0⟩, r2.put W2 W2.i0, _, rfl⟩
          · intro N2 hN2
            walk_at "ks"
            refine ite2 (fun e => ?_) (fun e => ?_)
            · walk_at "ks"
              refine s_setL (j := 0) W1.ob rfl ?_
              exact hN2 _ _ ⟨⟨_, W1.put W1.i0⟩, r1.put W1 W1.i0, rfl⟩
            · walk_at "ks"
              exact hN2 _ _ ⟨⟨_, W1⟩, r1, rfl⟩
        · intro N2 hN2
          walk_at "ks"
          refine s_bagR W.ob rfl ?_
          walk_at "ks"
          refine s_bagR W.ob rfl ?_
          walk_at "ks"
          refine ⟨c, _, rfl, .inl (SqL.of W.cells), ?_⟩
          walk_at "ks"
          refine ite2 (fun e => ?_) (fun e => ?_)
          · have e := of_decide_eq_true e
            walk_at "ks"
            refine s_bagR W.ob rfl ?_
            walk_at "ks"
            refine s_bagR W.ob rfl ?_
            walk_at "ks"
            obtain ⟨n, rfl⟩ := Int.eq_ofNat_of_zero_le W.i0
            rw [List.length_map] at e
            have hn : n < ns.length := by omega
            refine s_bagR W.cells (atI_nat (v := .int ns[n]) (by rw [List.getElem?_map, List.getElem?_eq_getElem hn]; rfl)) ?_
            exact hN2 _ _ ⟨rfl, _, rfl⟩
          · walk_at "ks"
            exact hN2 _ _ ⟨rfl, _, rfl⟩
      · walk_at "ks"
        exact hN _ _ ⟨⟨_, _, _, _, _, W⟩, Rel.refl W.bag, _, rfl⟩
theorem ok_l_bag (T : Tx K mg a) : FnOk P w K mg base CX0 1 a.l_bag.1 a.l_bag.2 p_l_bag (sp_l_bag K) := by
  refine T.F_l_bag.ok sc_l_bag (fun vs H Q E h => ?_) (fun cdv A outer s H vs Q E hr h => ?_)
  · obtain ⟨b, ns, rfl, _⟩ := h
    rfl
  · obtain ⟨b, ns, rfl, hb, hn, k⟩ := h
    refine ⟨_, (pss_one (ps_ret (pe_lst (pa_cons pe_int (pa_cons pe_int (pa_cons pe_int (pa_cons (pe_lc (own := [("_law_cell", 1)]) (g := gName 1) rfl sc_l_bag.nd (pi_list (pe_slice sl_list (pv 0) po_none (po_some pe_int))) (blkOk_by (own := [("_law_cell", 1)]) (N := n_l_bag) (sc := defScope s_l_bag) (by decide +kernel)) (fun _ _ _ _ _ => pg_name (i := 1) sc_l_bag.nd rfl (Or.inl rfl)) (fun _ _ _ _ _ => pts_nil) (fun _ _ _ _ _ => (pe_callB call_abs (by rfl) T.z_abs (by decide +kernel) (pa_cons (pv 1) pa_nil)))) pa_nil))))))), ?_⟩
    walk_at "ks"
    refine ⟨_, rfl, b, _, rfl, hb, fun p hp => ?_⟩
    obtain ⟨ms, em, hm⟩ : ∃ ms : List Int, cutV (ns.map V.int) none (some 63) = ms.map V.int ∧ ms.length ≤ 63 := by
      refine ⟨ns.take 63, ?_, by rw [List.length_take]; omega⟩
      unfold cutV
      rw [HT.sIx_none, show (63 : Int) = ((63 : Nat) : Int) from rfl, HT.sIx_nat, List.drop_zero, Nat.sub_zero, ← List.map_take, List.length_map, Nat.min_eq_right hn, List.take_of_length_le (Nat.le_refl _), List.take_of_length_le hn]
    rw [em]
    have s1 : Same H (upd H p (.lst (ms.map V.int))) := same_new hp
    have hp1 : (upd H p (.lst (ms.map V.int))) p = some (.lst (ms.map V.int)) := upd_same
    revert s1 hp1
    generalize upd H p (.lst (ms.map V.int)) = H1
    intro s1 hp1
    refine ⟨p, rfl, ⟨_, SqL.of hp1⟩, fun D hD => lc_list (K := K) (a := p) (xs := ms.map V.int) (fun i H' => Same H1 H' ∧ ∃ ks : List Int, H' D = some (.lst (ks.map V.int)) ∧ ks.length ≤ i) ⟨same_new hD, [], upd_same, Nat.le_refl _⟩ (fun i H' _ q => SqL.of (q.1 _ _ hp1)) (fun i x H2 hi q => ?_) (fun H2 q => ?_)⟩
    · obtain ⟨q1, ks, q2, q3⟩ := q
      rw [List.getElem?_map] at hi
      cases e : ms[i]? with
      | none => rw [e] at hi; cases hi
      | some n =>
      rw [e] at hi
      cases hi
      have hil : i < ms.length := (List.getElem?_eq_some_iff.mp e).1
      refine ⟨rfl, s_yes (iteT ?_)⟩
      walk_at "ks"
      refine ⟨n, rfl, _, q2, ?_, fun c o e => ?_, ks ++ [if n < 0 then -n else n], ?_, by rw [List.length_append, List.length_singleton]; omega⟩
      · rw [List.length_map]
        exact Nat.lt_of_le_of_lt (show _ ≤ 63 by omega) (by decide)
      · rw [upd_ne (ne_of_none e hD)]
        exact q1 c o e
      · rw [upd_same, List.map_append]
        rfl
    · obtain ⟨q1, ks, q2, q3⟩ := q
      refine ⟨by show 4 ≤ sizeLine; decide, fun r hr' => ?_⟩
      have nr : D ≠ r := ne_of_none q2 hr'
      have s3 : Same H (upd H2 r (.lst [.int 0, .int 1234567891, .int 0, .ref D])) := (s1.trans q1).trans (same_new hr')
      refine k _ r s3 ?_ ⟨0, 1234567891, 0, D, ks, ⟨upd_same, by rw [upd_ne nr]; exact q2, by decide⟩⟩
      cases e : H r with
      | none => rfl
      | some o => rw [(s1.trans q1) _ _ e] at hr'; cases hr'

end
section
variable {P : Program} {w : World} {K : PySem.W.Frag} {mg : Str → Option Value} {base : Heap} {a : Ad}
theorem ok_l_called (T : Tx K mg a) : FnOk P w K mg base CX0 1 a.l_called.1 a.l_called.2 p_l_called sp_l_called := by
  refine T.F_l_called.ok sc_l_called (fun vs H Q E h => ?_) (fun cdv A outer s H vs Q E hr h => ?_)
  · obtain ⟨z, p, rfl, _⟩ := h
    rfl
  · obtain ⟨z, p, rfl, hp, hz, k⟩ := h
    have fz : z.length ≤ sizeLine := Nat.le_trans hz (by decide)
    refine ⟨_, (pss_cons (ps_par (i := 2) (j := 3) (by rfl) sc_l_called.nd rfl rfl (by decide) rfl rfl (pa_cons (pe_slice sl_str (pv 0) po_none (po_some (pv 1))) (pa_cons (pe_slice sl_str (pv 0) (po_some (pe_op op_add (pv 1) pe_int)) po_none) pa_nil)) (by rfl))
      (pss_one (ps_ret (pe_op op_add_str (pe_op op_add_str (pe_op op_add_str (pe_op op_add_str (pv 2) (pv 2)) (pe_ix ix_str (pv 0) (pv 1) (fun _ _ => rfl))) (pv 3)) (pv 3))))), ?_⟩
    walk_at "ks"
    refine ⟨_, rfl, z, rfl, fz, ?_⟩
    walk_at "ks"
    refine ⟨_, rfl, ?_⟩
    walk_at "ks"
    refine ⟨z, rfl, fz, ?_⟩
    walk_at "ks"
    refine ⟨_, _, rfl, ?_⟩
    have eA := cutS_to z p
    have eB := cutS_from z (p + 1)
    have lA := (congrArg List.length eA)
    have lB := (congrArg List.length eB)
    rw [List.length_take, ← len_tl, ← len_tl] at lA
    rw [List.length_drop, ← len_tl, ← len_tl] at lB
    rw [show ((p : Int) + 1) = ((p + 1 : Nat) : Int) from rfl]
    revert eA eB lA lB
    generalize cutS z none (some (p : Int)) = A1
    generalize cutS z (some ((p + 1 : Nat) : Int)) none = B1
    intro eA eB lA lB
    have hsl : sizeLine = 16777216 := sizeLine_eq
    walk_at "ks"
    refine ⟨_, _, rfl, rfl, by omega, ?_⟩
    have l1 := len_tl (A1 ++ A1)
    rw [tl_append, List.length_append, ← len_tl] at l1
    walk_at "ks"
    refine ⟨z, _, _, rfl, rfl, fz, atI_nat (tl_at hp), ?_⟩
    refine ⟨_, _, rfl, rfl, (by rw [l1]; show _ + 1 ≤ _; omega), ?_⟩
    have l2 := len_tl (A1 ++ A1 ++ sg ((tl z).getD p 0))
    rw [tl_append, List.length_append, ← len_tl, l1] at l2
    have l2 : (A1 ++ A1 ++ sg ((tl z).getD p 0)).length = A1.length + A1.length + 1 := l2
    walk_at "ks"
    refine ⟨_, _, rfl, rfl, (by rw [l2]; omega), ?_⟩
    have l3 := len_tl (A1 ++ A1 ++ sg ((tl z).getD p 0) ++ B1)
    rw [tl_append, List.length_append, ← len_tl, ← len_tl, l2] at l3
    walk_at "ks"
    refine ⟨_, _, rfl, rfl, (by rw [l3]; omega), ?_⟩
    refine k _ ?_
    rw [tl_append, tl_append, tl_append, tl_append, eA, eB, show tl (sg ((tl z).getD p 0)) = [(tl z).getD p 0] from rfl]
    unfold callL
    simp only [List.append_assoc, List.singleton_append, List.cons_append, List.nil_append]
theorem ok_l_written (T : Tx K mg a) (G_l_called : FnOk P w K mg base CX0 1 a.l_called.1 a.l_called.2 p_l_called sp_l_called) : FnOk P w K mg base CX0 2 a.l_written.1 a.l_written.2 p_l_written sp_l_written := by
  refine T.F_l_written.ok sc_l_written (fun vs H Q E h => ?_) (fun cdv A outer s H vs Q E hr h => ?_)
  · obtain ⟨z, b, cs, rfl, _⟩ := h
    rfl
  · obtain ⟨z, b, cs, rfl, hb, h1, h2, hn, ok, k⟩ := h
    refine ⟨_, (pss_cons (ps_for PassesOwn.never rfl (pi_list (pv 1)) (pg_name (i := 2) sc_l_written.nd rfl (Or.inl rfl))
      (pss_one (ps_set (i := 0) sc_l_written.nd rfl (Or.inl rfl) (pe_call G_l_called (hr.mono (by decide)) (by rfl) T.g_l_called T.F_l_called.kp T.b_l_called .nil pass0 (pa_cons (pv 0) (pa_cons (pv 2) pa_nil))))))
      (pss_one (ps_ret (pv 0)))), ?_⟩
    walk_at "ks"
    refine ⟨b, rfl, ⟨_, SqL.of hb⟩, for_list (K := K) (a := b) (xs := cI cs) (fun i σ H' => ∃ (u : Str) (v : Option V), σ = [some (.str u), some (.ref b), v] ∧ H' = H ∧ tl u = writeL (tl z) (cs.take i))
      ⟨z, none, rfl, rfl, rfl⟩ (fun i σ H' _ ⟨_, _, _, e, _⟩ => by rw [e]; exact SqL.of hb) ?_ ?_⟩
    · rintro i v σ H' hi ⟨u, _, rfl, rfl, hu⟩
      obtain ⟨c, hc, rfl⟩ := of_cI hi
      show tAsg _ _ _ _ _
      walk_at "ks"
      have lz : (tl z).length = (z.length - 1) + 1 := by rw [← len_tl]; omega
      have lu := writeL_len (cs.take i) (tl z) (z.length - 1) lz (okS_take _ _ _ ok)
      rw [← hu, ← len_tl] at lu
      have lc := okS_at cs _ i c ok hc
      have lb := lastN_le (cs.take i) (z.length - 1)
      have lp : 2 ^ (cs.take i).length ≤ 2 ^ 3 := Nat.pow_le_pow_right (by decide) (by rw [List.length_take]; omega)
      have lm : (z.length - 1) * 2 ^ (cs.take i).length ≤ 999 * 2 ^ 3 := Nat.mul_le_mul (by omega) lp
      refine ⟨u, c, rfl, by omega, by omega, fun u' hu' => ⟨u', some (.int c), rfl, rfl, ?_⟩⟩
      rw [hu', hu, take_snoc hc, writeL_snoc]
    · rintro σ H' ⟨u, v, rfl, rfl, hu⟩
      walk_at "ks"
      rw [cI_len, List.take_length] at hu
      exact k u hu
theorem ok_l_from (T : Tx K mg a) : FnOk P w K mg base CX0 1 a.l_from.1 a.l_from.2 p_l_from sp_l_from := by
  refine T.F_l_from.ok sc_l_from (fun vs H Q E h => ?_) (fun cdv A outer s H vs Q E hr h => ?_)
  · obtain ⟨z, b, cs, p, rfl, _⟩ := h
    rfl
  · obtain ⟨z, b, cs, p, rfl, h1, h2, hb, hn, ok, hp, k⟩ := h
    have fz : z.length ≤ sizeLine := Nat.le_trans h2 (by decide)
    refine ⟨_, (pss_cons (ps_set (i := 3) sc_l_from.nd rfl (Or.inl rfl) (pe_lst (pa_cons (pe_op op_sub (pe_callB call_len_str (by rfl) T.z_len PySem.boot_len (pa_cons (pv 0) pa_nil)) pe_int) pa_nil)))
      (pss_cons (ps_for PassesOwn.never rfl (pi_list (pv 1)) (pg_name (i := 4) sc_l_from.nd rfl (Or.inl rfl))
      (pss_one (ps_expr (pe_bm PySem.F.plainAttrs_list PySem.F.slot_list_append PySem.F.type_list_append mt_append (pv 3) (pa_cons (pe_op op_mul pe_int (pe_ix ix_list (pv 3) (pe_un un_neg pe_int) (fun _ _ => rfl))) pa_nil)))))
      (pss_cons (ps_for PassesOwn.never rfl (pi_range3 (by rfl) T.z_range (pa_cons (pe_op op_sub (pe_callB call_len_seq (by rfl) T.z_len PySem.boot_len (pa_cons (pv 1) pa_nil)) pe_int) (pa_cons (pe_un un_neg pe_int) (pa_cons (pe_un un_neg pe_int) pa_nil)))) (pg_name (i := 5) sc_l_from.nd rfl (Or.inl rfl))
      (pss_one (ps_if (pt_cmpR op_gt (pv 2) (pe_op op_add (pe_ix ix_list (pv 1) (pv 5) (fun _ _ => rfl)) (pe_ix ix_list (pv 3) (pv 5) (fun _ _ => rfl))) (nomark _))
      (pss_one (ps_set (i := 2) sc_l_from.nd rfl (Or.inl rfl) (pe_op op_sub (pv 2) (pe_ix ix_list (pv 3) (pv 5) (fun _ _ => rfl)))))
      (pss_one (ps_if (pt_cmpR op_ge (pv 2) (pe_ix ix_list (pv 1) (pv 5) (fun _ _ => rfl)) (nomark _))
      (pss_one (ps_set (i := 2) sc_l_from.nd rfl (Or.inl rfl) (pe_op op_sub (pv 2) (pe_ix ix_list (pv 1) (pv 5) (fun _ _ => rfl)))))
      pss_nil)))))
      (pss_one (ps_ret (pe_ix ix_str (pv 0) (pv 2) (fun _ _ => rfl))))))), ?_⟩
    walk_at "ks"
    refine ⟨z, rfl, fz, ?_⟩
    walk_at "ks"
    refine ⟨by show 1 ≤ sizeLine; decide, fun r hr' => ?_⟩
    walk_at "ks"
    have s1 : Same H (upd H r (.lst [.int ((z.length : Int) - 1)])) := same_new hr'
    refine ⟨b, rfl, ⟨_, SqL.of (s1 _ _ hb)⟩, for_list (K := K) (a := b) (xs := cI cs) (fun i σ H' => ∃ v : Option V, σ = [some (.str z), some (.ref b), some (.int (p : Nat)), some (.ref r), v, none] ∧ Same H H' ∧ H' r = some (.lst (cI (lastsL (z.length - 1) (cs.take i)))))
      ⟨none, rfl, s1, ?_⟩ (fun i σ H' _ ⟨_, _, s2, _⟩ => SqL.of (s2 _ _ hb)) ?_ ?_⟩
    · rw [upd_same, sub1 h1]
      rfl
    · rintro i v σ H2 hi ⟨_, rfl, s2, hr2⟩
      obtain ⟨c, hc, rfl⟩ := of_cI hi
      show tDrop _ _ _ _
      walk_at "ks"
      obtain ⟨ys, ey⟩ := lastsL_last (cs.take i) (z.length - 1)
      refine ⟨.inl ⟨rfl, _, SqL.of hr2⟩, ?_⟩
      walk_at "ks"
      refine ⟨r, _, _, _, rfl, rfl, SqL.of hr2, (show atI _ (-1) = some (.int (lastN (z.length - 1) (cs.take i) : Nat)) by rw [ey, cI_app]; exact atI_last _ _), ?_⟩
      refine s_I (.inl ⟨by decide, by decide⟩) ?_
      walk_at "ks"
      refine ⟨r, _, _, rfl, rfl, hr2, ?_, ?_⟩
      · rw [cI_len, lastsL_len, List.length_take]
        exact Nat.lt_of_le_of_lt (show _ ≤ 65 by omega) (by decide)
      · refine ⟨some (.int c), rfl, fun b o e => ?_, ?_⟩
        · rw [upd_ne (ne_of_none e hr')]
          exact s2 b o e
        · rw [upd_same, take_snoc hc, lastsL_snoc, cI_app]
          rfl
    · rintro σ H2 ⟨v, rfl, s2, hr2⟩
      walk_at "ks"
      rw [cI_len, List.take_length] at hr2
      have hb2 := s2 _ _ hb
      refine ⟨b, _, rfl, .inl (SqL.of hb2), ?_⟩
      walk_at "ks"
      rw [cI_len]
      refine ⟨_, _, _, _, rfl, RgC.neg (by omega) (by omega) (by decide) (by decide), ?_⟩
      rw [show (((cs.length : Int) - 1) - (-1)).toNat = cs.length by omega]
      refine for_rangeC (fun i σ H' => H' = H2 ∧ ∃ v5 : Option V, σ = [some (.str z), some (.ref b), some (.int (orig (lastN (z.length - 1) (cs.take (cs.length - i))) (cs.drop (cs.length - i)) p : Nat)), some (.ref r), v, v5]) ⟨rfl, none, ?_⟩ ?_ ?_
      · rw [Nat.sub_zero, List.drop_length]
        rfl
      · rintro i σ H3 hi ⟨rfl, v5, rfl⟩
        have hj : cs.length - 1 - i < cs.length := by omega
        have ej : ((cs.length : Int) - 1) + ((i : Nat) : Int) * (-1) = ((cs.length - 1 - i : Nat) : Int) := by omega
        have e1 : cs.length - i = (cs.length - 1 - i) + 1 := by omega
        have e2 : cs.length - (i + 1) = cs.length - 1 - i := by omega
        have ob := orig_back (L := z.length - 1) (p := p) (List.getElem?_eq_getElem hj)
        rw [← e1] at ob
        have sp := shN_spec (lastN (z.length - 1) (cs.take (cs.length - 1 - i))) cs[cs.length - 1 - i] (orig (lastN (z.length - 1) (cs.take (cs.length - i))) (cs.drop (cs.length - i)) p)
        rw [← ob] at sp
        rw [ej, e2]
        revert sp
        generalize orig (lastN (z.length - 1) (cs.take (cs.length - i))) (cs.drop (cs.length - i)) p = q
        generalize orig (lastN (z.length - 1) (cs.take (cs.length - 1 - i))) (cs.drop (cs.length - 1 - i)) p = q'
        intro sp
        have x1 := cI_at (List.getElem?_eq_getElem hj)
        have x2 := cI_at (lastsL_at cs (z.length - 1) (cs.length - 1 - i) (by omega))
        show tIfS _ _ _ _ _ _
        walk_at "ks"
        refine s_bagR hb2 (atI_nat x1) ?_
        walk_at "ks"
        refine s_bagR hr2 (atI_nat x2) ?_
        walk_at "ks"
        refine ite2 (fun e => ?_) (fun e => ?_)
        · have e := of_decide_eq_true e
          walk_at "ks"
          refine s_bagR hr2 (atI_nat x2) ?_
          walk_at "ks"
          refine ⟨rfl, some (.int (cs.length - 1 - i : Nat)), ?_⟩
          rw [show ((q' : Nat) : Int) = (q : Int) - (lastN (z.length - 1) (cs.take (cs.length - 1 - i)) : Nat) by omega]
          rfl
        · have e : ¬ _ := fun q => e (decide_eq_true q)
          walk_at "ks"
          refine s_bagR hb2 (atI_nat x1) ?_
          walk_at "ks"
          refine ite2 (fun e3 => ?_) (fun e3 => ?_)
          · have e3 := of_decide_eq_true e3
            walk_at "ks"
            refine s_bagR hb2 (atI_nat x1) ?_
            walk_at "ks"
            refine ⟨rfl, some (.int (cs.length - 1 - i : Nat)), ?_⟩
            rw [show ((q' : Nat) : Int) = (q : Int) - (cs[cs.length - 1 - i] : Nat) by omega]
            rfl
          · have e3 : ¬ _ := fun q => e3 (decide_eq_true q)
            walk_at "ks"
            refine ⟨rfl, some (.int (cs.length - 1 - i : Nat)), ?_⟩
            rw [show q' = q by omega]
            rfl
      · rintro σ H3 ⟨rfl, v5, rfl⟩
        walk_at "ks"
        rw [Nat.sub_self, List.take_zero, List.drop_zero]
        refine ⟨z, _, _, rfl, rfl, fz, atI_nat (letN_at h1 ok hp), ?_⟩
        exact k _ s2
theorem ok_l_equal (T : Tx K mg a) (G_l_from : FnOk P w K mg base CX0 1 a.l_from.1 a.l_from.2 p_l_from sp_l_from) : FnOk P w K mg base CX0 2 a.l_equal.1 a.l_equal.2 p_l_equal sp_l_equal := by
  refine T.F_l_equal.ok sc_l_equal (fun vs H Q E h => ?_) (fun cdv A outer s H vs Q E hr h => ?_)
  · obtain ⟨z, u, b, cs, p, rfl, _⟩ := h
    rfl
  · obtain ⟨z, u, b, cs, p, rfl, h1, h2, hu, hb, hn, ok, hp, he, k⟩ := h
    refine ⟨_, (pss_one (ps_ret (pe_cmpR op_eq (pe_call G_l_from (hr.mono (by decide)) (by rfl) T.g_l_from T.F_l_from.kp T.b_l_from .nil pass0 (pa_cons (pv 0) (pa_cons (pv 2) (pa_cons (pv 3) pa_nil)))) (pe_call G_l_from (hr.mono (by decide)) (by rfl) T.g_l_from T.F_l_from.kp T.b_l_from .nil pass0 (pa_cons (pv 1) (pa_cons (pv 2) (pa_cons (pv 3) pa_nil)))) (nomark _)))), ?_⟩
    walk_at "ks"
    refine ⟨z, b, cs, p, rfl, h1, h2, hb, hn, ok, hp, fun H1 s1 => ?_⟩
    walk_at "ks"
    refine ⟨u, b, cs, p, rfl, by omega, by omega, s1 _ _ hb, hn, by rw [hu]; exact ok, by rw [hu]; exact hp, fun H2 s2 => ?_⟩
    walk_at "ks"
    exact tru_of (R := fun v => Q v H2) (sg_eq.mpr he) (k H2 (s1.trans s2))

end
section
variable {P : Program} {w : World} {K : PySem.W.Frag} {mg : Str → Option Value} {base : Heap} {a : Ad}
theorem ok_l_number (T : Tx K mg a) (G_l_from : FnOk P w K mg base CX0 1 a.l_from.1 a.l_from.2 p_l_from sp_l_from) : FnOk P w K mg base CX0 2 a.l_number.1 a.l_number.2 p_l_number sp_l_number := by
  refine T.F_l_number.ok sc_l_number (fun vs H Q E h => ?_) (fun cdv A outer s H vs Q E hr h => ?_)
  · obtain ⟨z, u, b, cs, rfl, _⟩ := h
    rfl
  · obtain ⟨z, u, b, cs, rfl, rz, ru, hu, hb, hn, ok, k⟩ := h
    have fz := rz.fits
    have hz := rz.2.1
    refine ⟨_, (pss_cons (ps_set (i := 3) sc_l_number.nd rfl (Or.inl rfl) (pe_callB call_len_seq (by rfl) T.z_len PySem.boot_len (pa_cons (pe_lc (own := [("_law_place", 6)]) (g := gName 6) rfl sc_l_number.nd (pi_range1 (by rfl) T.z_range (pa_cons (pe_callB call_len_str (by rfl) T.z_len PySem.boot_len (pa_cons (pv 0) pa_nil)) pa_nil)) (blkOk_by (own := [("_law_place", 6)]) (N := n_l_number) (sc := defScope s_l_number) (by decide +kernel)) (fun _ _ _ _ _ => pg_name (i := 6) sc_l_number.nd rfl (Or.inl rfl)) (fun _ _ _ _ _ => (pts_one (pt_cmpR op_ne (pe_ix ix_str (pv 0) (pv 6) (fun _ _ => rfl)) (pe_ix ix_str (pv 1) (pv 6) (fun _ _ => rfl)) (nomark _)))) (fun _ _ _ _ _ => (pv 6))) pa_nil)))
      (pss_cons (ps_for PassesOwn.never rfl (pi_range1 (by rfl) T.z_range (pa_cons (pe_callB call_len_seq (by rfl) T.z_len PySem.boot_len (pa_cons (pv 2) pa_nil)) pa_nil)) (pg_name (i := 4) sc_l_number.nd rfl (Or.inl rfl))
      (pss_cons (ps_set (i := 5) sc_l_number.nd rfl (Or.inl rfl) (pe_cmpR op_ne (pe_call G_l_from (hr.mono (by decide)) (by rfl) T.g_l_from T.F_l_from.kp T.b_l_from .nil pass0 (pa_cons (pv 0) (pa_cons (pe_slice sl_list (pv 2) po_none (po_some (pv 4))) (pa_cons (pe_ix ix_list (pv 2) (pv 4) (fun _ _ => rfl)) pa_nil)))) (pe_call G_l_from (hr.mono (by decide)) (by rfl) T.g_l_from T.F_l_from.kp T.b_l_from .nil pass0 (pa_cons (pv 1) (pa_cons (pe_slice sl_list (pv 2) po_none (po_some (pv 4))) (pa_cons (pe_ix ix_list (pv 2) (pv 4) (fun _ _ => rfl)) pa_nil)))) (nomark _)))
      (pss_one (ps_set (i := 3) sc_l_number.nd rfl (Or.inl rfl) (pe_op op_sub (pe_op op_mul pe_int (pv 3)) (pe_callTy call_int1 (by rfl) T.z_int (by decide +kernel) (pa_cons (pv 5) pa_nil)))))))
      (pss_one (ps_ret (pv 3))))), ?_⟩
    walk_at "ks"
    refine ⟨z, rfl, fz, ?_⟩
    walk_at "ks"
    refine ⟨_, rfl, by omega, by omega, fun D hD => lc_range (lo := 0) (n := z.length) (fun i H' => Same H H' ∧ H' D = some (.lst (cI (apart (tl z) (tl u) i)))) ⟨same_new hD, upd_same⟩ (fun i H1 hi p => ?_) (fun H1 p => ?_)⟩
    · obtain ⟨p1, p2⟩ := p
      refine ⟨rfl, ?_⟩
      walk_at "ks"
      refine ⟨z, _, _, rfl, rfl, fz, (by rw [Int.zero_add]; exact atI_nat (tl_at hi)), ?_⟩
      walk_at "ks"
      refine ⟨u, _, _, rfl, rfl, by rw [hu]; exact fz, (by rw [Int.zero_add]; exact atI_nat (tl_at (z := u) (by omega))), ?_⟩
      walk_at "ks"
      have hs := apart_succ (tl z) (tl u) i
      by_cases e : (tl z).getD i 0 = (tl u).getD i 0
      · rw [decide_eq_true (sg_eq.mpr e)]
        refine iteF ⟨p1, ?_⟩
        rw [hs, if_neg (by rw [e]; simp), List.append_nil]
        exact p2
      · rw [decide_eq_false (fun q => e (sg_eq.mp q))]
        refine iteT ?_
        walk_at "ks"
        refine ⟨_, p2, ?_, fun b o q => ?_, ?_⟩
        · rw [cI_len]
          exact Nat.lt_of_le_of_lt (Nat.le_trans (apart_len _ _ _) (by omega : i ≤ 1000)) (by decide)
        · rw [upd_ne (ne_of_none q hD)]
          exact p1 b o q
        · rw [upd_same, hs, if_pos (by simpa using e), cI_app, Int.zero_add]
    · obtain ⟨s1, p2⟩ := p
      refine ⟨D, _, rfl, .inl (SqL.of p2), ?_⟩
      walk_at "ks"
      have hb1 := s1 _ _ hb
      refine ⟨b, _, rfl, .inl (SqL.of hb1), ?_⟩
      walk_at "ks"
      rw [cI_len, cI_len]
      refine ⟨_, rfl, by omega, by omega, ?_⟩
      rw [show ((cs.length : Int)).toNat = cs.length by omega]
      refine for_range (lo := 0) (n := cs.length) (fun i σ H' => Same H H' ∧ ∃ v4 v5 : Option V, σ = [some (.str z), some (.str u), some (.ref b), some (.int (numF (tl z) (tl u) cs i)), v4, v5, none]) ⟨s1, none, none, ?_⟩ ?_ ?_
      · rw [show numF (tl z) (tl u) cs 0 = ((apart (tl z) (tl u) z.length).length : Nat) by rw [len_tl]; rfl]
        rfl
      · rintro i σ H2 hi ⟨s2, v4, v5, rfl⟩
        rw [Int.zero_add]
        show tSeq _ _ _ _ _
        have hc := List.getElem?_eq_getElem hi
        have hle := okS_at _ _ _ _ ok hc
        have hb2 := s2 _ _ hb
        have eg : cs.getD i 0 = cs[i] := by simp [List.getD, hi]
        walk_at "ks"
        refine ⟨_, rfl, b, _, rfl, SqL.of hb2, fun q hq => ?_⟩
        rw [cut_to]
        have s3 : Same H2 (upd H2 q (.lst (cI (cs.take i)))) := same_new hq
        walk_at "ks"
        refine s_bagR (s3 _ _ hb2) (atI_nat (cI_at hc)) ?_
        walk_at "ks"
        refine ⟨z, q, cs.take i, cs[i], rfl, by have := rz.1; omega, hz, upd_same, by rw [List.length_take]; omega, okS_take _ _ _ ok, hle, fun H4 s4 => ?_⟩
        walk_at "ks"
        have hb4 := s4 _ _ (s3 _ _ hb2)
        refine ⟨_, rfl, b, _, rfl, SqL.of hb4, fun q' hq' => ?_⟩
        rw [cut_to]
        have s5 : Same H4 (upd H4 q' (.lst (cI (cs.take i)))) := same_new hq'
        walk_at "ks"
        refine s_bagR (s5 _ _ hb4) (atI_nat (cI_at hc)) ?_
        walk_at "ks"
        refine ⟨u, q', cs.take i, cs[i], rfl, by have := rz.1; omega, by omega, upd_same, by rw [List.length_take]; omega, by rw [hu]; exact okS_take _ _ _ ok, by rw [hu]; exact hle, fun H6 s6 => ?_⟩
        walk_at "ks"
        refine s_I (.inl ⟨by decide, by decide⟩) ?_
        walk_at "ks"
        refine .inr ⟨_, rfl, ?_⟩
        walk_at "ks"
        refine ⟨((s2.trans s3).trans s4).trans (s5.trans s6), some (.int (i : Nat)), some (.bl (!decide (V.str (sg (letN (tl z) (cs.take i) cs[i])) = V.str (sg (letN (tl u) (cs.take i) cs[i]))))), ?_⟩
        have es : numF (tl z) (tl u) cs (i + 1) = 2 * numF (tl z) (tl u) cs i - (if (!decide (V.str (sg (letN (tl z) (cs.take i) cs[i])) = V.str (sg (letN (tl u) (cs.take i) cs[i])))) = true then 1 else 0) := by
          show 2 * numF (tl z) (tl u) cs i - (if letN (tl z) (cs.take i) (cs.getD i 0) ≠ letN (tl u) (cs.take i) (cs.getD i 0) then (1 : Int) else 0) = _
          rw [eg]
          by_cases q : letN (tl z) (cs.take i) cs[i] = letN (tl u) (cs.take i) cs[i]
          · rw [if_neg (by simpa using q), decide_eq_true (sg_eq.mpr q)]
            rfl
          · rw [if_pos q, decide_eq_false (fun h => q (sg_eq.mp h))]
            rfl
        rw [es]
        rfl
      · rintro σ H2 ⟨s2, v4, v5, rfl⟩
        walk_at "ks"
        exact k _ s2
theorem ok_l_story (T : Tx K mg a) (G_l_take : FnOk P w K mg base CX0 1 a.l_take.1 a.l_take.2 p_l_take sp_l_take) : FnOk P w K mg base CX0 2 a.l_story.1 a.l_story.2 p_l_story sp_l_story := by
  refine T.F_l_story.ok sc_l_story (fun vs H Q E h => ?_) (fun cdv A outer s H vs Q E hr h => ?_)
  · obtain ⟨b, L, n, rfl, _⟩ := h
    rfl
  · obtain ⟨b, L, n, rfl, B, hL, hn, k⟩ := h
    refine ⟨_, (pss_cons (ps_set (i := 3) sc_l_story.nd rfl (Or.inl rfl) (pe_lst pa_nil))
      (pss_cons (ps_for PassesOwn.never rfl (pi_range1 (by rfl) T.z_range (pa_cons (pv 2) pa_nil)) (pg_name (i := 4) sc_l_story.nd rfl (Or.inl rfl))
      (pss_cons (ps_set (i := 5) sc_l_story.nd rfl (Or.inl rfl) (pe_ifExp (pt_cmpR (op_neD hr.units) (pv 3) (pe_lst pa_nil) (nomark _)) (pe_op op_mul pe_int (pe_ix ix_list (pv 3) (pe_un un_neg pe_int) (fun _ _ => rfl))) pe_int))
      (pss_cons (ps_set (i := 6) sc_l_story.nd rfl (Or.inl rfl) (pe_lst (pa_cons pe_int (pa_cons (pv 1) (pa_cons (pe_op op_fdiv (pv 1) pe_int) (pa_cons (pv 5) (pa_cons (pe_call G_l_take (hr.mono (by decide)) (by rfl) T.g_l_take T.F_l_take.kp T.b_l_take .nil pass0 (pa_cons (pv 0) (pa_cons (pe_op op_add (pv 1) pe_int) pa_nil))) (pa_cons (pe_call G_l_take (hr.mono (by decide)) (by rfl) T.g_l_take T.F_l_take.kp T.b_l_take .nil pass0 (pa_cons (pv 0) (pa_cons (pe_op op_add (pv 1) pe_int) pa_nil))) pa_nil))))))))
      (pss_cons (ps_expr (pe_bm PySem.F.plainAttrs_list PySem.F.slot_list_append PySem.F.type_list_append mt_append (pv 3) (pa_cons (pe_ix ix_list (pv 6) (pe_call G_l_take (hr.mono (by decide)) (by rfl) T.g_l_take T.F_l_take.kp T.b_l_take .nil pass0 (pa_cons (pv 0) (pa_cons pe_int pa_nil))) (fun _ _ => rfl)) pa_nil)))
      (pss_one (ps_set (i := 1) sc_l_story.nd rfl (Or.inl rfl) (pe_op op_mul pe_int (pv 1))))))))
      (pss_one (ps_ret (pv 3))))), ?_⟩
    walk_at "ks"
    refine ⟨Nat.zero_le _, fun f hf => ?_⟩
    walk_at "ks"
    have r1 : Rel b H (upd H f (.lst [])) := Rel.of_same B (same_new hf)
    refine ⟨_, rfl, by omega, by omega, ?_⟩
    rw [show ((n : Int)).toNat = n by omega]
    refine for_range (lo := 0) (n := n) (fun i σ H' => Rel b H H' ∧ ∃ (cs : List Nat) (v4 v5 v6 : Option V), σ = [some (.ref b), some (.int (lastN L cs : Nat)), some (.int (n : Nat)), some (.ref f), v4, v5, v6] ∧ H' f = some (.lst (cI cs)) ∧ cs.length = i ∧ okS L cs)
      ⟨r1, [], none, none, none, rfl, upd_same, rfl, trivial⟩ ?_ ?_
    · rintro i σ H2 hi ⟨r2, cs, v4, v5, v6, rfl, hf2, hl, ok⟩
      have B2 := r2.bag
      have top1 : lastN L cs ≤ 1000 * 2 ^ 64 := Nat.le_trans (lastN_le cs L) (Nat.mul_le_mul hL (Nat.pow_le_pow_right (by decide) (by omega)))
      show tSeq _ _ _ _ _
      refine s_seqK (fun σ H' => Rel b H H' ∧ H' f = some (.lst (cI cs)) ∧ ∃ (g : Nat) (v4 : Option V), g ≤ lastN L cs ∧ σ = [some (.ref b), some (.int (lastN L cs : Nat)), some (.int (n : Nat)), some (.ref f), v4, some (.int (g : Nat)), v6]) ?_ ?_
      · rintro σ H3 ⟨r3, hf3, g, v4, hg, rfl⟩
        walk_at "ks"
        refine s_I ⟨by decide, by decide⟩ ?_
        walk_at "ks"
        refine ⟨b, _, rfl, r3.bag, by omega, by omega, fun x1 H4 x10 x11 r4 => ?_⟩
        walk_at "ks"
        refine ⟨b, _, rfl, r4.bag, by omega, by omega, fun x2 H5 x20 x21 r5 => ?_⟩
        walk_at "ks"
        refine ⟨by show 6 ≤ sizeLine; decide, fun q hq => ?_⟩
        walk_at "ks"
        have s6 : Same H5 (upd H5 q (.lst [.int 0, .int (lastN L cs : Nat), .int ((lastN L cs : Nat) / 2), .int (g : Nat), .int x1, .int x2])) := same_new hq
        have hf5 := r5.cI r4.bag (r4.cI r3.bag hf3)
        have hf6 := s6 _ _ hf5
        refine ⟨.inl ⟨rfl, _, SqL.of hf6⟩, ?_⟩
        walk_at "ks"
        have B6 := r5.bag.same s6
        refine ⟨b, _, rfl, B6, by decide, by decide, fun x3 H7 x30 x31 r7 => ?_⟩
        have nqb : q ≠ b := fun e => by
          obtain ⟨o, eo⟩ := r5.bag.there
          rw [← e, hq] at eo
          cases eo
        have hq7 := r7.kp _ _ upd_same nqb
        have hf7 := r7.cI B6 hf6
        obtain ⟨y1, rfl⟩ := Int.eq_ofNat_of_zero_le x10
        obtain ⟨y2, rfl⟩ := Int.eq_ofNat_of_zero_le x20
        obtain ⟨y3, rfl⟩ := Int.eq_ofNat_of_zero_le x30
        obtain ⟨c, hc, hcl⟩ : ∃ c : Nat, ([.int 0, .int (lastN L cs : Nat), .int ((lastN L cs : Nat) / 2), .int (g : Nat), .int (y1 : Nat), .int (y2 : Nat)] : List V)[y3]? = some (.int (c : Nat)) ∧ c ≤ lastN L cs := by
          have h6 : y3 = 0 ∨ y3 = 1 ∨ y3 = 2 ∨ y3 = 3 ∨ y3 = 4 ∨ y3 = 5 := by omega
          rcases h6 with rfl | rfl | rfl | rfl | rfl | rfl
          · exact ⟨0, rfl, Nat.zero_le _⟩
          · exact ⟨_, rfl, Nat.le_refl _⟩
          · exact ⟨lastN L cs / 2, rfl, by omega⟩
          · exact ⟨g, rfl, hg⟩
          · exact ⟨y1, rfl, by omega⟩
          · exact ⟨y2, rfl, by omega⟩
        walk_at "ks"
        refine s_bagR hq7 (atI_nat hc) ?_
        walk_at "ks"
        refine ⟨f, _, _, rfl, rfl, hf7, ?_, ?_⟩
        · rw [cI_len]
          exact Nat.lt_of_le_of_lt (show _ ≤ 64 by omega) (by decide)
        walk_at "ks"
        refine s_I (.inl ⟨by decide, by decide⟩) ?_
        walk_at "ks"
        have r8 : Rel b H (upd H7 f (.lst (cI cs ++ [.int (c : Nat)]))) := ((((r3.trans r4).trans r5).same s6).trans r7).at_new B hf _
        refine ⟨r8, cs ++ [c], v4, some (.int (g : Nat)), some (.ref q), ?_, by rw [upd_same, cI_app], by rw [List.length_append, hl]; rfl, okS_snoc _ _ _ ok hcl⟩
        rw [lastN_snoc]
        rfl
      · intro N hN
        walk_at "ks"
        refine ⟨Nat.zero_le _, fun q hq => ?_⟩
        have s3 : Same H2 (upd H2 q (.lst [])) := same_new hq
        walk_at "ks"
        refine ⟨_, _, .lst (SqL.of (s3 _ _ hf2)) (dp_all cs), .lst (SqL.of upd_same) .nil, shaped_cs cs, shaped_cs [], ?_⟩
        rw [eqv_nil]
        by_cases e : cs = []
        · rw [decide_eq_true e]
          walk_at "ks"
          refine iteF ?_
          walk_at "ks"
          exact hN _ _ ⟨r2.same s3, s3 _ _ hf2, 0, _, Nat.zero_le _, rfl⟩
        · rw [decide_eq_false e]
          obtain ⟨ys, c, ec⟩ : ∃ ys c, cs = ys ++ [c] := ⟨cs.dropLast, cs.getLast e, (List.dropLast_concat_getLast e).symm⟩
          have hc : cs[ys.length]? = some c := by rw [ec]; simp
          have hle := okS_at _ _ _ _ ok hc
          have et : cs.take ys.length = ys := by rw [ec]; simp
          have e2 : lastN L cs = 2 * lastN L ys := by rw [ec, lastN_snoc]
          rw [et] at hle
          walk_at "ks"
          refine iteT ?_
          walk_at "ks"
          refine s_bagR (s3 _ _ hf2) (show atI (cI cs) (-1) = some (.int (c : Nat)) by rw [ec, cI_app]; exact atI_last _ _) ?_
          refine s_I (.inl ⟨by decide, by decide⟩) ?_
          exact hN _ _ ⟨r2.same s3, s3 _ _ hf2, 2 * c, _, by omega, rfl⟩
    · rintro σ H2 ⟨r2, cs, v4, v5, v6, rfl, hf2, hl, ok⟩
      walk_at "ks"
      exact k _ f cs r2 hf hf2 hl ok

end
section
variable {P : Program} {w : World} {K : PySem.W.Frag} {mg : Str → Option Value} {base : Heap} {a : Ad}
theorem ok_l_any_word (T : Tx K mg a) (G_l_take : FnOk P w K mg base CX0 1 a.l_take.1 a.l_take.2 p_l_take sp_l_take) : FnOk P w K mg base CX0 2 a.l_any_word.1 a.l_any_word.2 p_l_any_word sp_l_any_word := by
  refine T.F_l_any_word.ok sc_l_any_word (fun vs H Q E h => ?_) (fun cdv A outer s H vs Q E hr h => ?_)
  · obtain ⟨b, m, rfl, _⟩ := h
    rfl
  · obtain ⟨b, m, rfl, B, m1, m2, k⟩ := h
    refine ⟨_, (pss_cons (ps_asg (pe_tup (pa_cons (pe_call G_l_take (hr.mono (by decide)) (by rfl) T.g_l_take T.F_l_take.kp T.b_l_take .nil pass0 (pa_cons (pv 0) (pa_cons pe_int pa_nil))) (pa_cons (pe_op op_add pe_int (pe_call G_l_take (hr.mono (by decide)) (by rfl) T.g_l_take T.F_l_take.kp T.b_l_take .nil pass0 (pa_cons (pv 0) (pa_cons pe_int pa_nil)))) pa_nil))) (pg_tup rfl (pgs_cons (pg_name (i := 2) sc_l_any_word.nd rfl (Or.inl rfl)) (pgs_cons (pg_name (i := 3) sc_l_any_word.nd rfl (Or.inr rfl)) pgs_nil))))
      (pss_cons (ps_if (pt_cmpR op_eq (pe_call G_l_take (hr.mono (by decide)) (by rfl) T.g_l_take T.F_l_take.kp T.b_l_take .nil pass0 (pa_cons (pv 0) (pa_cons pe_int pa_nil))) pe_int (nomark _))
      (pss_one (ps_asg (pe_tup (pa_cons pe_int (pa_cons pe_int pa_nil))) (pg_tup rfl (pgs_cons (pg_name (i := 2) sc_l_any_word.nd rfl (Or.inl rfl)) (pgs_cons (pg_name (i := 3) sc_l_any_word.nd rfl (Or.inr rfl)) pgs_nil)))))
      pss_nil)
      (pss_cons (ps_set (i := 4) sc_l_any_word.nd rfl (Or.inr rfl) (pe_slice sl_str pe_str (po_some (pv 2)) (po_some (pe_op op_add (pv 2) (pv 3)))))
      (pss_cons (ps_par (i := 5) (j := 6) (by rfl) sc_l_any_word.nd rfl rfl (by decide) rfl rfl (pa_cons (pe_call G_l_take (hr.mono (by decide)) (by rfl) T.g_l_take T.F_l_take.kp T.b_l_take .nil pass0 (pa_cons (pv 0) (pa_cons pe_int pa_nil))) (pa_cons (pe_op op_add pe_int (pe_call G_l_take (hr.mono (by decide)) (by rfl) T.g_l_take T.F_l_take.kp T.b_l_take .nil pass0 (pa_cons (pv 0) (pa_cons (pv 1) pa_nil)))) pa_nil)) (by rfl))
      (pss_cons (ps_set (i := 7) sc_l_any_word.nd rfl (Or.inl rfl) (pe_ix ix_list (pe_lst (pa_cons (pv 6) (pa_cons (pe_op op_add pe_int (pe_call G_l_take (hr.mono (by decide)) (by rfl) T.g_l_take T.F_l_take.kp T.b_l_take .nil pass0 (pa_cons (pv 0) (pa_cons pe_int pa_nil)))) pa_nil))) (pe_callTy call_int1 (by rfl) T.z_int (by decide +kernel) (pa_cons (pe_cmpR op_gt (pv 5) pe_int (nomark _)) pa_nil)) (fun _ _ => rfl)))
      (pss_cons (ps_set (i := 8) sc_l_any_word.nd rfl (Or.inl rfl) (pe_join pe_str (pe_lc (own := [("_law_k", 9)]) (g := gName 9) rfl sc_l_any_word.nd (pi_range1 (by rfl) T.z_range (pa_cons (pv 7) pa_nil)) (blkOk_by (own := [("_law_k", 9)]) (N := n_l_any_word) (sc := defScope s_l_any_word) (by decide +kernel)) (fun _ _ _ _ _ => pg_name (i := 9) sc_l_any_word.nd rfl (Or.inl rfl)) (fun _ _ _ _ _ => pts_nil) (fun _ _ _ _ _ => (pe_ix ix_str (pv 4) (pe_call G_l_take (hr.mono (by decide)) (by rfl) T.g_l_take T.F_l_take.kp T.b_l_take .nil pass0 (pa_cons (pv 0) (pa_cons (pv 3) pa_nil))) (fun _ _ => rfl))))))
      (pss_cons (ps_set (i := 8) sc_l_any_word.nd rfl (Or.inl rfl) (pe_slice sl_str (pe_op op_mulS (pv 8) (pe_op op_add (pe_op op_fdivW (pv 6) (pv 7)) pe_int)) po_none (po_some (pv 6))))
      (pss_one (ps_ret (pe_ix ix_list (pe_lst (pa_cons (pv 8) (pa_cons (pv 8) (pa_cons (pv 8) (pa_cons (pe_revS (pv 8)) pa_nil))))) (pv 5) (fun _ _ => rfl))))))))))), ?_⟩
    refine s_seqK (fun σ H' => ∃ st fe : Nat, 1 ≤ fe ∧ st + fe ≤ 26 ∧ Rel b H H' ∧ σ = [some (.ref b), some (.int (m : Nat)), some (.int (st : Nat)), some (.int (fe : Nat)), none, none, none, none, none, none]) ?_ ?_
    · rintro σ H1 ⟨st, fe, f1, sf, r1, rfl⟩
      with_reducible refine s_seqK (fun σ H' => ∃ st fe : Nat, 1 ≤ fe ∧ st + fe ≤ 26 ∧ Rel b H H' ∧ σ = [some (.ref b), some (.int (m : Nat)), some (.int (st : Nat)), some (.int (fe : Nat)), none, none, none, none, none, none]) ?_ ?_
      · clear r1 f1 sf
        rintro σ H1 ⟨st, fe, f1, sf, r1, rfl⟩
        walk_at "ks"
        have lab : abc.length ≤ sizeLine := by rw [abc_len]; decide
        refine ⟨_, rfl, ?_⟩
        walk_at "ks"
        refine ⟨_, rfl, abc, rfl, lab, ?_⟩
        rw [show ((st : Int) + (fe : Int)) = ((st + fe : Nat) : Int) from rfl]
        have hL := cutS_mid abc st fe (by rw [abc_len]; exact sf)
        revert hL
        generalize cutS abc (some (st : Int)) (some ((st + fe : Nat) : Int)) = Lt
        intro hL
        have lenL : (tl Lt).length = fe := by rw [hL, List.length_take, List.length_drop, ← len_tl, abc_len]; omega
        have lowL : ∀ c ∈ tl Lt, 97 ≤ c ∧ c ≤ 122 := fun c hc => mem_abc.mp (by rw [hL] at hc; exact List.mem_of_mem_drop (List.mem_of_mem_take hc))
        walk_at "ks"
        refine ⟨b, _, rfl, r1.bag, by decide, by decide, fun wy H2 wy0 wy1 r2 => ?_⟩
        walk_at "ks"
        refine ⟨b, _, rfl, r2.bag, by omega, by omega, fun sz H3 sz0 sz1 r3 => ?_⟩
        walk_at "ks"
        refine ⟨_, _, rfl, ?_⟩
        walk_at "ks"
        refine ⟨b, _, rfl, r3.bag, by decide, by decide, fun x4 H4 x40 x41 r4 => ?_⟩
        obtain ⟨wy, rfl⟩ := Int.eq_ofNat_of_zero_le wy0
        obtain ⟨sz, rfl⟩ := Int.eq_ofNat_of_zero_le sz0
        obtain ⟨x4, rfl⟩ := Int.eq_ofNat_of_zero_le x40
        walk_at "ks"
        refine ⟨by show 2 ≤ sizeLine; decide, fun q hq => ?_⟩
        walk_at "ks"
        refine .inr ⟨_, rfl, ?_⟩
        have r5 : Rel b H (upd H4 q (.lst [.int (1 + (sz : Nat)), .int (1 + (x4 : Nat))])) := (((r1.trans r2).trans r3).trans r4).new hq
        obtain ⟨mn, j, hj, hmn, n1, n2⟩ : ∃ mn j : Nat, (if decide (1 < ((wy : Nat) : Int)) = true then (1 : Int) else 0) = (j : Nat) ∧ ([.int (1 + (sz : Nat)), .int (1 + (x4 : Nat))] : List V)[j]? = some (.int (mn : Nat)) ∧ 1 ≤ mn ∧ mn ≤ 1000 := by
          by_cases e : 1 < ((wy : Nat) : Int)
          · exact ⟨1 + x4, 1, by rw [decide_eq_true e]; rfl, rfl, by omega, by omega⟩
          · exact ⟨1 + sz, 0, by rw [decide_eq_false e]; rfl, rfl, by omega, by omega⟩
        rw [hj]
        refine s_bagR upd_same (atI_nat hmn) ?_
        revert r5
        generalize upd H4 q (.lst [.int (1 + (sz : Nat)), .int (1 + (x4 : Nat))]) = H5
        intro r5
        walk_at "ks"
        refine ⟨⟨_, rfl⟩, ?_⟩
        walk_at "ks"
        refine ⟨_, rfl, by omega, by omega, fun D hD => ?_⟩
        rw [show ((mn : Int)).toNat = mn by omega]
        have nDb : D ≠ b := fun e => by
          obtain ⟨o, eo⟩ := r5.bag.there
          rw [← e, hD] at eo
          cases eo
        refine lc_range (lo := 0) (n := mn) (fun i H' => Rel b H5 H' ∧ ∃ ws : List Nat, H' D = some (.lst (sgs ws)) ∧ ws.length = i ∧ ∀ c ∈ ws, 97 ≤ c ∧ c ≤ 122) ⟨(Rel.refl r5.bag).new hD, [], upd_same, rfl, by simp⟩ ?_ ?_
        · rintro i H6 hi ⟨r6, ws, hD6, hl, low⟩
          refine ⟨rfl, s_yes (iteT ?_)⟩
          walk_at "ks"
          refine ⟨b, _, rfl, r6.bag, by omega, by omega, fun x H7 x0 x1 r7 => ?_⟩
          obtain ⟨x, rfl⟩ := Int.eq_ofNat_of_zero_le x0
          have hx : x < (tl Lt).length := by omega
          have hxc : (tl Lt)[x]? = some (tl Lt)[x] := List.getElem?_eq_getElem hx
          refine ⟨Lt, _, _, rfl, rfl, Nat.le_trans (show Lt.length ≤ 26 by rw [len_tl]; omega) (by decide), atI_nat hxc, ?_⟩
          refine ⟨_, r7.kp _ _ hD6 nDb, ?_, (r6.trans r7).at_new r5.bag hD _, ws ++ [(tl Lt)[x]], by rw [upd_same, sgs_snoc], by rw [List.length_append, hl]; rfl, fun c hc => ?_⟩
          · rw [sgs_len, hl]
            exact Nat.lt_of_le_of_lt (show i ≤ 1000 by omega) (by decide)
          · rcases List.mem_append.mp hc with h | h
            · exact low c h
            · have e : c = (tl Lt)[x] := by simpa using h
              rw [e]
              exact lowL _ (List.getElem_mem hx)
        · rintro H6 ⟨r6, ws, hD6, hl, low⟩
          have he : tl ("" : Str) = [] := by decide +kernel
          rw [sgs_eq] at hD6
          refine ⟨_, D, _, rfl, rfl, .inl (SqL.of hD6), join_size _ he _ (by omega), ?_⟩
          have hW := join_sg _ he ws
          revert hW
          generalize Txt.join "" (ws.map sg) = W0
          intro hW
          have lW : W0.length = mn := by rw [len_tl, hW, hl]
          walk_at "ks"
          refine s_I (wide_div (b := 200) (by omega) (by omega) (by decide) (by decide)) ?_
          walk_at "ks"
          have q1 := Nat.mul_div_le (1 + sz) mn
          have q2 := Nat.lt_mul_div_succ (1 + sz) (show 0 < mn by omega)
          have q3 : (1 + sz) / mn ≤ 1 + sz := Nat.div_le_self _ _
          have q4 : mn * ((1 + sz) / mn + 1) = mn * ((1 + sz) / mn) + mn := Nat.mul_succ _ _
          have hsl : sizeLine = 16777216 := sizeLine_eq
          have en : (1 + ((sz : Nat) : Int)) / ((mn : Nat) : Int) + 1 = (((1 + sz) / mn + 1 : Nat) : Int) := rfl
          rw [en]
          clear en
          revert q1 q2 q3 q4
          generalize (1 + sz) / mn = qn
          intro q1 q2 q3 q4
          refine s_mulS ⟨W0, _, rfl, rfl, by omega, by omega, by rw [Int.toNat_natCast, lW]; omega, fun U hU => ?_⟩
          rw [Int.toNat_natCast, hW] at hU
          have lU : U.length = mn * (qn + 1) := by
            rw [len_tl, hU, List.length_flatten, List.map_replicate, List.sum_replicate_nat, hl, Nat.mul_comm]
          walk_at "ks"
          refine ⟨_, rfl, U, rfl, by omega, ?_⟩
          rw [show (1 + ((sz : Nat) : Int)) = ((1 + sz : Nat) : Int) from rfl]
          have hV := cutS_to U (1 + sz)
          revert hV
          generalize cutS U none (some ((1 + sz : Nat) : Int)) = Wd
          intro hV
          have lV : Wd.length = 1 + sz := by rw [len_tl, hV, List.length_take, ← len_tl]; omega
          have lowV : Low Wd := fun c hc => by
            rw [hV] at hc
            have h2 := List.mem_of_mem_take hc
            rw [hU] at h2
            obtain ⟨l, hl1, hl2⟩ := List.mem_flatten.mp h2
            rw [(List.mem_replicate.mp hl1).2] at hl2
            exact low c hl2
          walk_at "ks"
          refine ⟨Wd, rfl, by omega, fun R hR => ?_⟩
          have lR : R.length = 1 + sz := by rw [len_tl, hR, List.length_reverse, ← len_tl, lV]
          have lowR : Low R := fun c hc => lowV c (by rw [hR] at hc; exact List.mem_reverse.mp hc)
          walk_at "ks"
          refine ⟨by show 4 ≤ sizeLine; decide, fun p hp => ?_⟩
          walk_at "ks"
          obtain ⟨Z, hZ, lZ, lowZ⟩ : ∃ Z : Str, ([.str Wd, .str Wd, .str Wd, .str R] : List V)[wy]? = some (.str Z) ∧ Z.length = 1 + sz ∧ Low Z := by
            have h4 : wy = 0 ∨ wy = 1 ∨ wy = 2 ∨ wy = 3 := by omega
            rcases h4 with rfl | rfl | rfl | rfl
            · exact ⟨Wd, rfl, lV, lowV⟩
            · exact ⟨Wd, rfl, lV, lowV⟩
            · exact ⟨Wd, rfl, lV, lowV⟩
            · exact ⟨R, rfl, lR, lowR⟩
          refine s_bagR upd_same (atI_nat hZ) ?_
          exact k Z _ (by omega) (by omega) lowZ ((r5.trans r6).new hp)
      · intro N hN
        walk_at "ks"
        refine ⟨b, _, rfl, r1.bag, by decide, by decide, fun x H2 x0 x1 r2 => ?_⟩
        walk_at "ks"
        refine ite2 (fun e => ?_) (fun e => ?_)
        · walk_at "ks"
          refine s_pair (fun p hp => ?_)
          walk_at "ks"
          exact hN _ _ ⟨0, 26, by decide, by decide, (r1.trans r2).new hp, rfl⟩
        · walk_at "ks"
          exact hN _ _ ⟨st, fe, f1, sf, r1.trans r2, rfl⟩
    · intro N hN
      walk_at "ks"
      refine ⟨b, _, rfl, B, by decide, by decide, fun x1 H1 x10 x11 r1 => ?_⟩
      walk_at "ks"
      refine ⟨b, _, rfl, r1.bag, by decide, by decide, fun x2 H2 x20 x21 r2 => ?_⟩
      walk_at "ks"
      refine s_pair (fun p hp => ?_)
      walk_at "ks"
      obtain ⟨x1, rfl⟩ := Int.eq_ofNat_of_zero_le x10
      obtain ⟨x2, rfl⟩ := Int.eq_ofNat_of_zero_le x20
      exact hN _ _ ⟨x1, 1 + x2, by omega, by omega, (r1.trans r2).new hp, rfl⟩

end
section
variable {P : Program} {w : World} {K : PySem.W.Frag} {mg : Str → Option Value} {base : Heap} {a : Ad}
theorem ok_l_row (T : Tx K mg a) (G_l_take : FnOk P w K mg base CX0 1 a.l_take.1 a.l_take.2 p_l_take sp_l_take) (G_l_any_word : FnOk P w K mg base CX0 2 a.l_any_word.1 a.l_any_word.2 p_l_any_word sp_l_any_word) :
    FnOk P w K mg base CX0 3 a.l_row.1 a.l_row.2 p_l_row sp_l_row := by
  refine T.F_l_row.ok sc_l_row (fun vs H Q E h => ?_) (fun cdv A outer s H vs Q E hr h => ?_)
  · obtain ⟨b, m, rfl, _⟩ := h
    rfl
  · obtain ⟨b, m, rfl, B, m1, m2, k⟩ := h
    have hsl : sizeLine = 16777216 := sizeLine_eq
    refine ⟨_, (pss_cons (ps_set (i := 2) sc_l_row.nd rfl (Or.inr rfl) (pe_call G_l_any_word (hr.mono (by decide)) (by rfl) T.g_l_any_word T.F_l_any_word.kp T.b_l_any_word .nil pass0 (pa_cons (pv 0) (pa_cons (pv 1) pa_nil))))
      (pss_cons (ps_if (pt_cmpR op_lt (pe_callB call_len_str (by rfl) T.z_len PySem.boot_len (pa_cons (pv 2) pa_nil)) pe_int (nomark _))
      (pss_one (ps_set (i := 2) sc_l_row.nd rfl (Or.inr rfl) (pe_op op_add_str (pv 2) (pv 2))))
      pss_nil)
      (pss_cons (ps_par (i := 3) (j := 4) (by rfl) sc_l_row.nd rfl rfl (by decide) rfl rfl (pa_cons (pe_call G_l_take (hr.mono (by decide)) (by rfl) T.g_l_take T.F_l_take.kp T.b_l_take .nil pass0 (pa_cons (pv 0) (pa_cons pe_int pa_nil))) (pa_cons (pe_call G_l_take (hr.mono (by decide)) (by rfl) T.g_l_take T.F_l_take.kp T.b_l_take .nil pass0 (pa_cons (pv 0) (pa_cons pe_int pa_nil))) pa_nil)) (by rfl))
      (pss_cons (ps_if (pt_cmpR op_eq (pv 3) pe_int (nomark _))
      (pss_one (ps_ret (pe_op op_add_str (pe_slice sl_str (pv 2) po_none (po_some (pe_un un_neg pe_int))) (pe_ix ix_list (pe_lc (own := [("_law_letter", 5)]) (g := gName 5) rfl sc_l_row.nd (pi_str pe_str) (blkOk_by (own := [("_law_letter", 5)]) (N := n_l_row) (sc := defScope s_l_row) (by decide +kernel)) (fun _ _ _ _ _ => pg_name (i := 5) sc_l_row.nd rfl (Or.inl rfl)) (fun _ _ _ _ _ => (pts_one (pt_cmpR op_ne (pv 5) (pe_ix ix_str (pv 2) pe_int (fun _ _ => rfl)) (nomark _)))) (fun _ _ _ _ _ => (pv 5))) (pv 4) (fun _ _ => rfl)))))
      pss_nil)
      (pss_one (ps_ret (pe_ix ix_list (pe_lst (pa_cons (pv 2) (pa_cons (pv 2) (pa_cons (pe_op op_add_str (pe_slice sl_str (pv 2) po_none (po_some (pe_un un_neg pe_int))) (pe_ix ix_str (pv 2) pe_int (fun _ _ => rfl))) pa_nil)))) (pv 3) (fun _ _ => rfl)))))))), ?_⟩
    refine s_seqK (fun σ H' => ∃ z : Str, 1 ≤ z.length ∧ z.length ≤ m ∧ Low z ∧ Rel b H H' ∧ σ = [some (.ref b), some (.int (m : Nat)), some (.str z), none, none, none]) ?_ ?_
    · rintro σ H1 ⟨z, l1, l2, low, r1, rfl⟩
      with_reducible refine s_seqK (fun σ H' => ∃ z : Str, 2 ≤ z.length ∧ z.length ≤ m ∧ Low z ∧ Rel b H H' ∧ σ = [some (.ref b), some (.int (m : Nat)), some (.str z), none, none, none]) ?_ ?_
      · clear l1 l2 low r1
        rintro σ H1 ⟨z, l1, l2, low, r1, rfl⟩
        walk_at "ks"
        refine ⟨b, _, rfl, r1.bag, by decide, by decide, fun wy H2 wy0 wy1 r2 => ?_⟩
        walk_at "ks"
        refine ⟨b, _, rfl, r2.bag, by decide, by decide, fun tn H3 tn0 tn1 r3 => ?_⟩
        walk_at "ks"
        refine ⟨_, _, rfl, ?_⟩
        obtain ⟨wy, rfl⟩ := Int.eq_ofNat_of_zero_le wy0
        obtain ⟨tn, rfl⟩ := Int.eq_ofNat_of_zero_le tn0
        have r3' := (r1.trans r2).trans r3
        have hC := cutS_but1 z (by omega)
        revert hC
        generalize hcut : cutS z none (some (-1)) = C1
        intro hC
        have lC : C1.length = z.length - 1 := by rw [len_tl, hC, List.length_take, ← len_tl]; omega
        walk_at "ks"
        refine ite2 (fun e => ?_) (fun e => ?_)
        · walk_at "ks"
          refine ⟨_, rfl, z, rfl, by omega, ?_⟩
          rw [hcut]
          walk_at "ks"
          refine ⟨_, rfl, fun D hD => ?_⟩
          have ha : tl ("abc" : Str) = [97, 98, 99] := by decide +kernel
          refine lc_it (n := ("abc" : Str).cps.size) (G := fun _ => True) walk_str (fun i H' => Same H3 H' ∧ H' D = some (.lst (sgs (((tl ("abc" : Str)).take i).filter (· != (tl z).getD 0 0))))) ⟨same_new hD, upd_same⟩ (fun _ _ _ _ => trivial) (fun i x H4 H5 hi p y => ?_) (fun H4 p => ?_)
          · obtain ⟨rfl, c, hc, rfl⟩ := y
            obtain ⟨p1, p2⟩ := p
            refine ⟨rfl, ?_⟩
            walk_at "ks"
            refine ⟨z, 0, (tl z).getD 0 0, rfl, rfl, by omega, atI_nat (j := 0) (tl_at (by omega)), ?_⟩
            walk_at "ks"
            have hc2 : (tl ("abc" : Str))[i]? = some c := by rw [← hc]; exact Array.getElem?_toList
            rw [take_snoc hc2, List.filter_append]
            by_cases e : c = (tl z).getD 0 0
            · rw [decide_eq_true (sg_eq.mpr e)]
              refine iteF ⟨p1, ?_⟩
              rw [List.filter_cons, if_neg (by rw [e]; simp), List.filter_nil, List.append_nil]
              exact p2
            · rw [decide_eq_false (fun q => e (sg_eq.mp q))]
              refine iteT ?_
              walk_at "ks"
              refine ⟨_, p2, ?_, fun b o q => ?_, ?_⟩
              · rw [sgs_len]
                refine Nat.lt_of_le_of_lt (List.length_filter_le _ _) ?_
                rw [List.length_take, ha]
                exact Nat.lt_of_le_of_lt (Nat.min_le_right _ _) (by decide)
              · rw [upd_ne (ne_of_none q hD)]
                exact p1 b o q
              · rw [upd_same, List.filter_cons, if_pos (by simpa using e), List.filter_nil, sgs_snoc]
          · obtain ⟨p1, p2⟩ := p
            rw [show ("abc" : Str).cps.size = (tl ("abc" : Str)).length from rfl, List.take_length, ha] at p2
            have f3 := flt3 ((tl z).getD 0 0)
            have fl : ∀ c ∈ ([97, 98, 99] : List Nat).filter (· != (tl z).getD 0 0), 97 ≤ c ∧ c ≤ 122 := fun c hc => by
              have h2 := (List.mem_filter.mp hc).1
              have h3 : c = 97 ∨ c = 98 ∨ c = 99 := by simpa using h2
              omega
            revert f3 fl p2
            generalize ([97, 98, 99] : List Nat).filter (· != (tl z).getD 0 0) = F
            intro p2 f3 fl
            have ht : tn < F.length := by omega
            walk_at "ks"
            refine s_bagR p2 (atI_nat (sgs_at (List.getElem?_eq_getElem ht))) ?_
            refine ⟨_, _, rfl, rfl, by show _ + 1 ≤ _; omega, ?_⟩
            have la := len_app C1 (sg F[tn])
            rw [show (sg F[tn]).length = 1 from rfl] at la
            exact k _ _ (by omega) (by omega) ((low.cut hC).app (Low.sg (fl _ (List.getElem_mem ht)))) (r3'.same p1)
        · have e : wy ≠ 1 := fun q => by
            rw [q] at e
            exact e (by decide)
          walk_at "ks"
          refine ⟨_, rfl, z, rfl, by omega, ?_⟩
          rw [hcut]
          walk_at "ks"
          refine ⟨z, 0, (tl z).getD 0 0, rfl, rfl, by omega, atI_nat (j := 0) (tl_at (by omega)), ?_⟩
          refine ⟨_, _, rfl, rfl, by show _ + 1 ≤ _; omega, ?_⟩
          have la := len_app C1 (sg ((tl z).getD 0 0))
          rw [show (sg ((tl z).getD 0 0)).length = 1 from rfl] at la
          have lowA : Low (C1 ++ sg ((tl z).getD 0 0)) := (low.cut hC).app (Low.sg (low.at (by omega)))
          walk_at "ks"
          refine ⟨by show 3 ≤ sizeLine; decide, fun p hp => ?_⟩
          walk_at "ks"
          obtain ⟨Z, hZ, lZ, lowZ⟩ : ∃ Z : Str, ([.str z, .str z, .str (C1 ++ sg ((tl z).getD 0 0))] : List V)[wy]? = some (.str Z) ∧ Z.length = z.length ∧ Low Z := by
            have h4 : wy = 0 ∨ wy = 2 := by omega
            rcases h4 with rfl | rfl
            · exact ⟨z, rfl, rfl, low⟩
            · exact ⟨_, rfl, by omega, lowA⟩
          refine s_bagR upd_same (atI_nat hZ) ?_
          exact k Z _ (by omega) (by omega) lowZ (r3'.new hp)
      · intro N hN
        walk_at "ks"
        refine ⟨z, rfl, by omega, ?_⟩
        walk_at "ks"
        refine ite2 (fun e => ?_) (fun e => ?_)
        · have e := of_decide_eq_true e
          walk_at "ks"
          refine ⟨_, _, rfl, rfl, by omega, ?_⟩
          walk_at "ks"
          exact hN _ _ ⟨z ++ z, by rw [len_app]; omega, by rw [len_app]; omega, low.app low, r1, rfl⟩
        · have e : ¬ ((z.length : Int) < 2) := fun q => e (decide_eq_true q)
          walk_at "ks"
          exact hN _ _ ⟨z, by omega, l2, low, r1, rfl⟩
    · intro N hN
      walk_at "ks"
      refine ⟨b, m, rfl, B, by omega, m2, fun z H1 z1 z2 low r1 => ?_⟩
      exact hN _ _ ⟨z, z1, z2, low, r1, rfl⟩
theorem ok_l_other (T : Tx K mg a) (G_l_take : FnOk P w K mg base CX0 1 a.l_take.1 a.l_take.2 p_l_take sp_l_take) : FnOk P w K mg base CX0 2 a.l_other.1 a.l_other.2 p_l_other sp_l_other := by
  refine T.F_l_other.ok sc_l_other (fun vs H Q E h => ?_) (fun cdv A outer s H vs Q E hr h => ?_)
  · obtain ⟨b, z, rfl, _⟩ := h
    rfl
  · obtain ⟨b, z, rfl, B, row, k⟩ := h
    have hsl : sizeLine = 16777216 := sizeLine_eq
    have fz := row.fits
    have z2 := row.1
    have z3 := row.2.1
    refine ⟨_, (pss_cons (ps_setLc (i := 2) (own := [("_law_letter", 5)]) (g := gName 5) rfl sc_l_other.nd rfl rfl (sw_true rfl rfl rfl (by decide +kernel)) (pi_str (pv 1)) (blkOk_by (own := [("_law_letter", 5)]) (N := n_l_other) (sc := defScope s_l_other) (by decide +kernel)) (fun _ _ _ _ _ => pg_name (i := 5) sc_l_other.nd rfl (Or.inl rfl)) (fun _ _ _ _ _ => pts_nil) (fun _ _ _ _ _ => (pv 5)))
      (pss_cons (ps_for PassesOwn.never rfl (pi_range1 (by rfl) T.z_range (pa_cons (pe_ix ix_list (pe_lst (pa_cons pe_int (pa_cons pe_int (pa_cons pe_int (pa_cons pe_int (pa_cons (pe_callB call_len_str (by rfl) T.z_len PySem.boot_len (pa_cons (pv 1) pa_nil)) pa_nil)))))) (pe_call G_l_take (hr.mono (by decide)) (by rfl) T.g_l_take T.F_l_take.kp T.b_l_take .nil pass0 (pa_cons (pv 0) (pa_cons pe_int pa_nil))) (fun _ _ => rfl)) pa_nil)) (pg_name (i := 3) sc_l_other.nd rfl (Or.inl rfl))
      (pss_cons (ps_set (i := 4) sc_l_other.nd rfl (Or.inr rfl) (pe_call G_l_take (hr.mono (by decide)) (by rfl) T.g_l_take T.F_l_take.kp T.b_l_take .nil pass0 (pa_cons (pv 0) (pa_cons (pe_callB call_len_str (by rfl) T.z_len PySem.boot_len (pa_cons (pv 1) pa_nil)) pa_nil))))
      (pss_one (ps_asg (pe_ix ix_list (pe_lc (own := [("_law_letter", 5)]) (g := gName 5) rfl sc_l_other.nd (pi_str pe_str) (blkOk_by (own := [("_law_letter", 5)]) (N := n_l_other) (sc := defScope s_l_other) (by decide +kernel)) (fun _ _ _ _ _ => pg_name (i := 5) sc_l_other.nd rfl (Or.inl rfl)) (fun _ _ _ _ _ => (pts_one (pt_cmpR op_ne (pv 5) (pe_ix ix_str (pv 1) (pv 4) (fun _ _ => rfl)) (nomark _)))) (fun _ _ _ _ _ => (pv 5))) (pe_call G_l_take (hr.mono (by decide)) (by rfl) T.g_l_take T.F_l_take.kp T.b_l_take .nil pass0 (pa_cons (pv 0) (pa_cons pe_int pa_nil))) (fun _ _ => rfl)) (pg_sub (pv 2) (pv 4) set_list)))))
      (pss_one (ps_ret (pe_join pe_str (pv 2)))))), ?_⟩
    walk_at "ks"
    refine ⟨_, rfl, fun f hf => ?_⟩
    refine lc_it (n := z.cps.size) (G := fun _ => True) walk_str (fun i H' => Same H H' ∧ H' f = some (.lst (sgs ((tl z).take i)))) ⟨same_new hf, upd_same⟩ (fun _ _ _ _ => trivial) (fun i x H4 H5 hi p y => ?_) (fun H1 p => ?_)
    · obtain ⟨rfl, c, hc, rfl⟩ := y
      obtain ⟨p1, p2⟩ := p
      refine ⟨rfl, s_yes (iteT ?_)⟩
      walk_at "ks"
      have hc2 : (tl z)[i]? = some c := by rw [← hc]; exact Array.getElem?_toList
      refine ⟨_, p2, ?_, fun b o q => ?_, ?_⟩
      · rw [sgs_len, List.length_take]
        exact Nat.lt_of_le_of_lt (Nat.min_le_left _ _) (Nat.lt_of_lt_of_le hi fz)
      · rw [upd_ne (ne_of_none q hf)]
        exact p1 b o q
      · rw [upd_same, take_snoc hc2, sgs_snoc]
    · obtain ⟨s1, p2⟩ := p
      rw [show z.cps.size = (tl z).length from rfl, List.take_length] at p2
      have r1 : Rel b H H1 := Rel.of_same B s1
      have nfb : f ≠ b := fun e => by
        obtain ⟨o, eo⟩ := B.there
        rw [← e, hf] at eo
        cases eo
      walk_at "ks"
      refine ⟨z, rfl, fz, ?_⟩
      walk_at "ks"
      refine ⟨by show 5 ≤ sizeLine; decide, fun q hq => ?_⟩
      walk_at "ks"
      refine ⟨b, _, rfl, (r1.new hq).bag, by decide, by decide, fun x H2 x0 x1 r2 => ?_⟩
      obtain ⟨x, rfl⟩ := Int.eq_ofNat_of_zero_le x0
      have nqb : q ≠ b := fun e => by
        obtain ⟨o, eo⟩ := r1.bag.there
        rw [← e, hq] at eo
        cases eo
      obtain ⟨n, hn, n1, n2⟩ : ∃ n : Nat, ([.int 1, .int 1, .int 2, .int 3, .int (z.length : Nat)] : List V)[x]? = some (.int (n : Nat)) ∧ 1 ≤ n ∧ n ≤ 1000 := by
        have h6 : x = 0 ∨ x = 1 ∨ x = 2 ∨ x = 3 ∨ x = 4 := by omega
        rcases h6 with rfl | rfl | rfl | rfl | rfl
        · exact ⟨1, rfl, by decide, by decide⟩
        · exact ⟨1, rfl, by decide, by decide⟩
        · exact ⟨2, rfl, by decide, by decide⟩
        · exact ⟨3, rfl, by decide, by decide⟩
        · exact ⟨z.length, rfl, by omega, by omega⟩
      refine s_bagR (r2.kp _ _ upd_same nqb) (atI_nat hn) ?_
      have hf2 := r2.kp _ _ ((same_new hq) _ _ p2) nfb
      have r2' := (r1.new hq).trans r2
      walk_at "ks"
      refine ⟨_, rfl, by omega, by omega, ?_⟩
      rw [show ((n : Int)).toNat = n by omega]
      refine for_range (lo := 0) (n := n) (fun i σ H' => Rel b H H' ∧ ∃ (us : List Nat) (v3 v4 : Option V), σ = [some (.ref b), some (.str z), some (.ref f), v3, v4, none] ∧ H' f = some (.lst (sgs us)) ∧ us.length = z.length ∧ (∀ c ∈ us, 97 ≤ c ∧ c ≤ 122) ∧ (1 ≤ i → us ≠ tl z))
        ⟨r2', tl z, none, none, rfl, hf2, (len_tl z).symm, row.2.2, fun h => absurd h (by decide)⟩ ?_ ?_
      · rintro i σ H3 hi ⟨r3, us, v3, v4, rfl, hf3, hl, low, dif⟩
        show tSeq _ _ _ _ _
        walk_at "ks"
        refine ⟨z, rfl, fz, ?_⟩
        walk_at "ks"
        refine ⟨b, _, rfl, r3.bag, by omega, by omega, fun at' H4 a0 a1 r4 => ?_⟩
        obtain ⟨at', rfl⟩ := Int.eq_ofNat_of_zero_le a0
        have hat : at' < z.length := by omega
        walk_at "ks"
        refine ⟨_, rfl, fun D hD => ?_⟩
        have r4' := r3.trans r4
        have hf4 := r4.kp _ _ hf3 nfb
        have ha : tl ("abcd" : Str) = [97, 98, 99, 100] := by decide +kernel
        refine lc_it (n := ("abcd" : Str).cps.size) (G := fun _ => True) walk_str (fun i H' => Same H4 H' ∧ H' D = some (.lst (sgs (((tl ("abcd" : Str)).take i).filter (· != (tl z).getD at' 0))))) ⟨same_new hD, upd_same⟩ (fun _ _ _ _ => trivial) (fun i x H6 H5 hi p y => ?_) (fun H5 p => ?_)
        · obtain ⟨rfl, c, hc, rfl⟩ := y
          obtain ⟨p1, p2⟩ := p
          refine ⟨rfl, ?_⟩
          walk_at "ks"
          refine ⟨z, _, (tl z).getD at' 0, rfl, rfl, fz, atI_nat (tl_at hat), ?_⟩
          walk_at "ks"
          have hc2 : (tl ("abcd" : Str))[i]? = some c := by rw [← hc]; exact Array.getElem?_toList
          rw [take_snoc hc2, List.filter_append]
          by_cases e : c = (tl z).getD at' 0
          · rw [decide_eq_true (sg_eq.mpr e)]
            refine iteF ⟨p1, ?_⟩
            rw [List.filter_cons, if_neg (by rw [e]; simp), List.filter_nil, List.append_nil]
            exact p2
          · rw [decide_eq_false (fun q => e (sg_eq.mp q))]
            refine iteT ?_
            walk_at "ks"
            refine ⟨_, p2, ?_, fun b o q => ?_, ?_⟩
            · rw [sgs_len]
              refine Nat.lt_of_le_of_lt (List.length_filter_le _ _) ?_
              rw [List.length_take, ha]
              exact Nat.lt_of_le_of_lt (Nat.min_le_right _ _) (by decide)
            · rw [upd_ne (ne_of_none q hD)]
              exact p1 b o q
            · rw [upd_same, List.filter_cons, if_pos (by simpa using e), List.filter_nil, sgs_snoc]
        · obtain ⟨p1, p2⟩ := p
          rw [show ("abcd" : Str).cps.size = (tl ("abcd" : Str)).length from rfl, List.take_length, ha] at p2
          have f3 := flt4 ((tl z).getD at' 0)
          have fl : ∀ c ∈ ([97, 98, 99, 100] : List Nat).filter (· != (tl z).getD at' 0), (97 ≤ c ∧ c ≤ 122) ∧ c ≠ (tl z).getD at' 0 := fun c hc => by
            obtain ⟨h2, h4⟩ := List.mem_filter.mp hc
            have h3 : c = 97 ∨ c = 98 ∨ c = 99 ∨ c = 100 := by simpa using h2
            exact ⟨by omega, by simpa using h4⟩
          revert f3 fl p2
          generalize ([97, 98, 99, 100] : List Nat).filter (· != (tl z).getD at' 0) = F
          intro p2 f3 fl
          have r5 := r4'.same p1
          walk_at "ks"
          refine ⟨b, _, rfl, r5.bag, by decide, by decide, fun y H6 y0 y1 r6 => ?_⟩
          obtain ⟨y, rfl⟩ := Int.eq_ofNat_of_zero_le y0
          have ht : y < F.length := by omega
          have nDb : D ≠ b := fun e => by
            obtain ⟨o, eo⟩ := r4'.bag.there
            rw [← e, hD] at eo
            cases eo
          refine s_bagR (r6.kp _ _ p2 nDb) (atI_nat (sgs_at (List.getElem?_eq_getElem ht))) ?_
          walk_at "ks"
          have hf6 := r6.kp _ _ (p1 _ _ hf4) nfb
          refine s_setL hf6 (ixN_of (by rw [sgs_len, hl]; exact hat)) ?_
          obtain ⟨g1, g2⟩ := fl _ (List.getElem_mem ht)
          have es : (sgs us).set at' (V.str (sg F[y])) = sgs (us.set at' F[y]) := by unfold sgs; rw [List.map_set]
          rw [es]
          refine ⟨(r5.trans r6).at_new B hf _, us.set at' F[y], _, _, rfl, upd_same, by rw [List.length_set, hl], fun c hc => ?_, fun _ e => ?_⟩
          · rcases List.mem_or_eq_of_mem_set hc with h | h
            · exact low c h
            · rw [h]; exact g1
          · have e2 : (us.set at' F[y]).getD at' 0 = F[y] := by
              rw [List.getD_eq_getElem?_getD, List.getElem?_set_self (by omega)]
              rfl
            rw [e] at e2
            exact g2 e2.symm
      · rintro σ H3 ⟨r3, us, v3, v4, rfl, hf3, hl, low, dif⟩
        walk_at "ks"
        refine ⟨⟨_, rfl⟩, ?_⟩
        walk_at "ks"
        have he : tl ("" : Str) = [] := by decide +kernel
        rw [sgs_eq] at hf3
        refine ⟨_, f, _, rfl, rfl, .inl (SqL.of hf3), join_size _ he _ (by omega), ?_⟩
        have hj := join_sg _ he us
        refine k _ _ r3 (by rw [len_tl, hj, hl]) (fun c hc => low c (by rw [hj] at hc; exact hc)) ?_
        rw [hj]
        exact dif n1

end
section
variable {P : Program} {w : World} {K : PySem.W.Frag} {mg : Str → Option Value} {base : Heap} {a : Ad}
theorem ok_l_far_right (T : Tx K mg a) (G_l_take : FnOk P w K mg base CX0 1 a.l_take.1 a.l_take.2 p_l_take sp_l_take) (G_first_difference : FnOk P w K mg base CX0 2 a.first_difference.1 a.first_difference.2 p_first_difference sp_first_difference)
    (G_last_difference : FnOk P w K mg base CX0 2 a.last_difference.1 a.last_difference.2 p_last_difference sp_last_difference) (G_f_init : FnOk P w K mg base CX0 4 a.f_init.1 a.f_init.2 p_f_init (sp_f_init a.C)) (G_f_length : FnOk P w K mg base CX0 2 a.f_length.1 a.f_length.2 p_f_length (sp_f_length a.C))
    (G_l_from : FnOk P w K mg base CX0 1 a.l_from.1 a.l_from.2 p_l_from sp_l_from) (G_l_equal : FnOk P w K mg base CX0 2 a.l_equal.1 a.l_equal.2 p_l_equal sp_l_equal) (G_differences : FnOk P w K mg base CX0 7 a.differences.1 a.differences.2 p_differences sp_differences)
    (G_l_number : FnOk P w K mg base CX0 2 a.l_number.1 a.l_number.2 p_l_number sp_l_number) : FnOk P w K mg base CX0 8 a.l_far_right.1 a.l_far_right.2 p_l_far_right sp_l_far_right := by
  refine T.F_l_far_right.ok sc_l_far_right (fun vs H Q E h => ?_) (fun cdv A outer s H vs Q E hr h => ?_)
  · obtain ⟨b, q, z, u, cs, rfl, _⟩ := h
    rfl
  · obtain ⟨b, q, z, u, cs, rfl, B, rz, ru, hu, ne, hq, hn, ok, k⟩ := h
    have z2 := rz.1
    have z3 := rz.2.1
    have lz := len_tl z
    have lu := len_tl u
    obtain ⟨d0, ys, d1, h0, h1⟩ := ends_of (apart_ne (n := z.length) lz.symm (by omega) ne)
    have FL := far_law (r := tl z) (o := tl u) (cs := cs) (d0 := d0) (d1 := d1) (ys := ys) (by omega) (by omega) (by rw [← lz]; exact ok) (by rw [← lz]; exact h0) (by rw [← lz]; exact h1)
    rw [← lz] at FL
    obtain ⟨f1, f2, f3, f4, f5, f6, f7⟩ := FL
    have top1 : lastN (z.length - 1) cs ≤ 1000 * 2 ^ 64 := Nat.le_trans (lastN_le cs _) (Nat.mul_le_mul (by omega) (Nat.pow_le_pow_right (by decide) hn))
    have oku : okS (u.length - 1) cs := by rw [hu]; exact ok
    have elu : lastN (u.length - 1) cs = lastN (z.length - 1) cs := by rw [hu]
    refine ⟨_, (pss_cons (ps_par (i := 4) (j := 5) (by rfl) sc_l_far_right.nd rfl rfl (by decide) rfl rfl (pa_cons (pe_call G_first_difference (hr.mono (by decide)) (by rfl) T.g_first_difference T.F_first_difference.kp T.b_first_difference .nil pass0 (pa_cons (pv 1) (pa_cons (pv 2) (pa_cons (pv 3) pa_nil)))) (pa_cons (pe_call G_last_difference (hr.mono (by decide)) (by rfl) T.g_last_difference T.F_last_difference.kp T.b_last_difference .nil pass0 (pa_cons (pv 1) (pa_cons (pv 2) (pa_cons (pv 3) pa_nil)))) pa_nil)) (by rfl))
      (pss_cons (ps_set (i := 6) sc_l_far_right.nd rfl (Or.inl rfl) (pe_meth0 (pe_make T.mkFar G_f_init (hr.mono (by decide)) (by rfl) T.g_Far T.b_f_init .nil pass0 (pa_cons (pv 1) (pa_cons (pv 3) pa_nil))) T.cl T.m_f_length G_f_length (hr.mono (by decide)) T.b_f_length .nil pass0))
      (pss_cons (ps_if (pt_not (pt_chain3 op_le op_le op_lt pe_int (pv 4) (pv 5) (pv 6)))
      (pss_one (ps_ret pe_bl))
      pss_nil)
      (pss_cons (ps_par (i := 7) (j := 8) (by rfl) sc_l_far_right.nd rfl rfl (by decide) rfl rfl (pa_cons (pe_call G_l_from (hr.mono (by decide)) (by rfl) T.g_l_from T.F_l_from.kp T.b_l_from .nil pass0 (pa_cons (pv 1) (pa_cons (pv 3) (pa_cons (pv 4) pa_nil)))) (pa_cons (pe_call G_l_from (hr.mono (by decide)) (by rfl) T.g_l_from T.F_l_from.kp T.b_l_from .nil pass0 (pa_cons (pv 2) (pa_cons (pv 3) (pa_cons (pv 4) pa_nil)))) pa_nil)) (by rfl))
      (pss_cons (ps_if (PW.pt (pw_or (pt_cmpR op_eq (pv 7) (pv 8) (nomark _)) (pw_or1 (pt_cmpR op_ne (pe_cmpR op_lt_str (pv 7) (pv 8) (nomark _)) (pe_cmpR op_lt_str (pv 1) (pv 2) (nomark _)) (nomark _)))))
      (pss_one (ps_ret pe_bl))
      pss_nil)
      (pss_cons (ps_if (pt_cmpR op_eq (pe_call G_l_from (hr.mono (by decide)) (by rfl) T.g_l_from T.F_l_from.kp T.b_l_from .nil pass0 (pa_cons (pv 1) (pa_cons (pv 3) (pa_cons (pv 5) pa_nil)))) (pe_call G_l_from (hr.mono (by decide)) (by rfl) T.g_l_from T.F_l_from.kp T.b_l_from .nil pass0 (pa_cons (pv 2) (pa_cons (pv 3) (pa_cons (pv 5) pa_nil)))) (nomark _))
      (pss_one (ps_ret pe_bl))
      pss_nil)
      (pss_cons (ps_for PassesOwn.never rfl (pi_range1 (by rfl) T.z_range (pa_cons pe_int pa_nil)) (pg_name (i := 9) sc_l_far_right.nd rfl (Or.inl rfl))
      (pss_cons (ps_set (i := 10) sc_l_far_right.nd rfl (Or.inl rfl) (pe_op op_sub (pe_op op_sub (pe_call G_l_take (hr.mono (by decide)) (by rfl) T.g_l_take T.F_l_take.kp T.b_l_take .nil pass0 (pa_cons (pv 0) (pa_cons (pe_op op_add (pv 4) pe_int) pa_nil))) pe_int) (pe_call G_l_take (hr.mono (by decide)) (by rfl) T.g_l_take T.F_l_take.kp T.b_l_take .nil pass0 (pa_cons (pv 0) (pa_cons pe_int pa_nil)))))
      (pss_cons (ps_if (PW.pt (pw_and (pt_cmpR op_ge (pv 10) pe_int (nomark _)) (pw_and1 (pt_not (pt_val (pe_call G_l_equal (hr.mono (by decide)) (by rfl) T.g_l_equal T.F_l_equal.kp T.b_l_equal .nil pass0 (pa_cons (pv 1) (pa_cons (pv 2) (pa_cons (pv 3) (pa_cons (pv 10) pa_nil))))))))))
      (pss_one (ps_ret pe_bl))
      pss_nil)
      (pss_cons (ps_set (i := 10) sc_l_far_right.nd rfl (Or.inl rfl) (pe_op op_add (pe_op op_add (pv 5) pe_int) (pe_call G_l_take (hr.mono (by decide)) (by rfl) T.g_l_take T.F_l_take.kp T.b_l_take .nil pass0 (pa_cons (pv 0) (pa_cons (pe_op op_sub (pv 6) (pv 5)) pa_nil)))))
      (pss_one (ps_if (PW.pt (pw_and (pt_cmpR op_lt (pv 10) (pv 6) (nomark _)) (pw_and1 (pt_not (pt_val (pe_call G_l_equal (hr.mono (by decide)) (by rfl) T.g_l_equal T.F_l_equal.kp T.b_l_equal .nil pass0 (pa_cons (pv 1) (pa_cons (pv 2) (pa_cons (pv 3) (pa_cons (pv 10) pa_nil))))))))))
      (pss_one (ps_ret pe_bl))
      pss_nil))))))
      (pss_one (ps_ret (pe_cmpR op_eq (pe_call G_differences (hr.mono (by decide)) (by rfl) T.g_differences T.F_differences.kp T.b_differences .nil pass0 (pa_cons (pv 1) (pa_cons (pv 2) (pa_cons (pv 3) pa_nil)))) (pe_call G_l_number (hr.mono (by decide)) (by rfl) T.g_l_number T.F_l_number.kp T.b_l_number .nil pass0 (pa_cons (pv 1) (pa_cons (pv 2) (pa_cons (pv 3) pa_nil)))) (nomark _))))))))))), ?_⟩
    walk_at "ks"
    refine ⟨z, u, q, cs, d0, rfl, z3, hu, hq, h0, fun H1 s1 => ?_⟩
    walk_at "ks"
    have hq1 := s1 _ _ hq
    refine ⟨z, u, q, cs, ys, d1, rfl, by omega, z3, hu, hq1, h1, fun H2 s2 => ?_⟩
    walk_at "ks"
    refine ⟨_, _, rfl, ?_⟩
    revert f1 f2 f3 f4 f5 f6 f7
    generalize firstD d0 cs = fD
    generalize lastD d1 (z.length - 1) cs = lD
    intro f1 f2 f3 f4 f5 f6 f7
    have hq2 := s2 _ _ hq1
    walk_at "ks"
    intro n dn hn0 hdn nn
    refine ⟨n, dn, q, z, cs, rfl, upd_same, rz, ?_, hn, ok, fun H3 l3 kp F3 => ⟨rfl, ?_⟩⟩
    · rw [upd_ne (ne_of_none hq2 hn0), upd_ne (ne_of_none hq2 hdn)]
      exact hq2
    have s3 := made_same hn0 hdn kp
    refine ⟨n, dn, _, rfl, F3.ob, ff_no _ _ (by decide +kernel) (by decide +kernel), ?_⟩
    walk_at "ks"
    refine ⟨n, dn, l3, z, cs, rfl, F3, fun H4 s4 => ?_⟩
    walk_at "ks"
    refine iteD (by omega) ?_
    walk_at "ks"
    refine iteD (by omega) ?_
    walk_at "ks"
    refine iteNS (by omega) ?_
    have hq4 := s4 _ _ (s3 _ _ hq2)
    walk_at "ks"
    refine ⟨z, q, cs, fD, rfl, by omega, z3, hq4, hn, ok, by omega, fun H5 s5 => ?_⟩
    walk_at "ks"
    have hq5 := s5 _ _ hq4
    refine ⟨u, q, cs, fD, rfl, by omega, by omega, hq5, hn, oku, by omega, fun H6 s6 => ?_⟩
    walk_at "ks"
    refine ⟨_, _, rfl, ?_⟩
    have hq6 := s6 _ _ hq5
    walk_at "ks"
    refine iteN (fun e => f3 (sg_eq.mp e)) ?_
    walk_at "ks"
    refine ⟨_, _, rfl, rfl, ?_⟩
    walk_at "ks"
    refine ⟨_, _, rfl, rfl, ?_⟩
    walk_at "ks"
    refine neq_same ((sg_lt _ _).trans f4.symm) ?_
    walk_at "ks"
    refine ⟨z, q, cs, lD, rfl, by omega, z3, hq6, hn, ok, by omega, fun H7 s7 => ?_⟩
    walk_at "ks"
    have hq7 := s7 _ _ hq6
    refine ⟨u, q, cs, lD, rfl, by omega, by omega, hq7, hn, oku, by omega, fun H8 s8 => ?_⟩
    walk_at "ks"
    refine iteN (fun e => f5 (sg_eq.mp e)) ?_
    have r8 : Rel b H H8 := Rel.of_same B ((((s1.trans s2).trans s3).trans s4).trans (((s5.trans s6).trans s7).trans s8))
    walk_at "ks"
    refine ⟨_, rfl, by decide, by decide, ?_⟩
    refine for_range (lo := 0) (n := 12) (fun i σ H' => Rel b H H' ∧ ∃ (x1 x2 : V) (v9 v10 : Option V), σ = [some (.ref b), some (.str z), some (.str u), some (.ref q), some (.int (fD : Nat)), some (.int (lD : Nat)), some (.int ((lastN (z.length - 1) cs : Nat) + 1)), some x1, some x2, v9, v10])
      ⟨r8, _, _, none, none, rfl⟩ ?_ ?_
    · rintro i σ H9 hi ⟨r9, x1, x2, v9, v10, rfl⟩
      show tSeq _ _ _ _ _
      refine s_seqK (fun σ H' => Rel b H H' ∧ ∃ (v9 : Option V) (pl : Int), pl < fD ∧ σ = [some (.ref b), some (.str z), some (.str u), some (.ref q), some (.int (fD : Nat)), some (.int (lD : Nat)), some (.int ((lastN (z.length - 1) cs : Nat) + 1)), some x1, some x2, v9, some (.int pl)]) ?_ ?_
      · clear r9 v9 v10
        rintro σ H9 ⟨r9, v9, pl, hpl, rfl⟩
        with_reducible refine s_seqK (fun σ H' => Rel b H H' ∧ ∃ (v9 v10 : Option V), σ = [some (.ref b), some (.str z), some (.str u), some (.ref q), some (.int (fD : Nat)), some (.int (lD : Nat)), some (.int ((lastN (z.length - 1) cs : Nat) + 1)), some x1, some x2, v9, v10]) ?_ ?_
        · clear r9 v9 pl hpl
          rintro σ H9 ⟨r9, v9, v10, rfl⟩
          walk_at "ks"
          refine ⟨b, _, rfl, r9.bag, by omega, by omega, fun x H10 y0 y1 r10 => ?_⟩
          obtain ⟨x, rfl⟩ := Int.eq_ofNat_of_zero_le y0
          walk_at "ks"
          have r10' := r9.trans r10
          refine ite2 (fun e => ?_) (fun e => ?_)
          · have e := of_decide_eq_true e
            walk_at "ks"
            refine ⟨z, u, q, cs, lD + 1 + x, rfl, by omega, z3, hu, r10'.cI B hq, hn, ok, by omega, f7 _ (by omega) (by omega), fun H11 s11 => ?_⟩
            walk_at "ks"
            refine iteF ?_
            walk_at "ks"
            exact ⟨r10'.same s11, _, _, _, _, rfl⟩
          · walk_at "ks"
            refine iteF ?_
            walk_at "ks"
            exact ⟨r10', _, _, _, _, rfl⟩
        · intro N hN
          walk_at "ks"
          refine ite2 (fun e => ?_) (fun e => ?_)
          · have e := of_decide_eq_true e
            obtain ⟨p, rfl⟩ := Int.eq_ofNat_of_zero_le e
            walk_at "ks"
            refine ⟨z, u, q, cs, p, rfl, by omega, z3, hu, r9.cI B hq, hn, ok, by omega, f6 _ (by omega), fun H11 s11 => ?_⟩
            walk_at "ks"
            refine iteF ?_
            walk_at "ks"
            exact hN _ _ ⟨r9.same s11, _, _, rfl⟩
          · walk_at "ks"
            refine iteF ?_
            walk_at "ks"
            exact hN _ _ ⟨r9, _, _, rfl⟩
      · intro N hN
        walk_at "ks"
        refine ⟨b, _, rfl, r9.bag, by omega, by omega, fun x H10 y0 y1 r10 => ?_⟩
        walk_at "ks"
        refine ⟨b, _, rfl, r10.bag, by decide, by decide, fun y H11 y2 y3 r11 => ?_⟩
        walk_at "ks"
        exact hN _ _ ⟨(r9.trans r10).trans r11, _, x - 1 - y, by omega, rfl⟩
    · rintro σ H9 ⟨r9, x1, x2, v9, v10, rfl⟩
      walk_at "ks"
      refine ⟨z, u, q, cs, rfl, rz, ru, hu, r9.cI B hq, hn, ok, fun H10 s10 => ?_⟩
      walk_at "ks"
      refine ⟨z, u, q, cs, rfl, rz, ru, hu, (r9.same s10).cI B hq, hn, ok, fun H11 s11 => ?_⟩
      walk_at "ks"
      exact tru_of (R := fun v => Q v H11) rfl (k H11 ((r9.same s10).same s11))

end
section
variable {P : Program} {w : World} {K : PySem.W.Frag} {mg : Str → Option Value} {base : Heap} {a : Ad}
theorem ok_law (T : Tx K mg a) (G_l_bag : FnOk P w K mg base CX0 1 a.l_bag.1 a.l_bag.2 p_l_bag (sp_l_bag K)) (G_l_take : FnOk P w K mg base CX0 1 a.l_take.1 a.l_take.2 p_l_take sp_l_take) (G_l_row : FnOk P w K mg base CX0 3 a.l_row.1 a.l_row.2 p_l_row sp_l_row)
    (G_l_other : FnOk P w K mg base CX0 2 a.l_other.1 a.l_other.2 p_l_other sp_l_other) (G_l_story : FnOk P w K mg base CX0 2 a.l_story.1 a.l_story.2 p_l_story sp_l_story) (G_l_far_right : FnOk P w K mg base CX0 8 a.l_far_right.1 a.l_far_right.2 p_l_far_right sp_l_far_right)
    (G_l_written : FnOk P w K mg base CX0 2 a.l_written.1 a.l_written.2 p_l_written sp_l_written) (G_l_called : FnOk P w K mg base CX0 1 a.l_called.1 a.l_called.2 p_l_called sp_l_called) : FnOk P w K mg base CX0 9 a.law.1 a.law.2 p_law (sp_law K) := by
  refine T.F_law.ok sc_law (fun vs H Q E h => ?_) (fun cdv A outer s H vs Q E hr h => ?_)
  · obtain ⟨q, ns, rfl, _⟩ := h
    rfl
  · obtain ⟨q, ns, rfl, hs, hn, k⟩ := h
    have hsl : sizeLine = 16777216 := sizeLine_eq
    refine ⟨_, (pss_cons (ps_set (i := 1) sc_law.nd rfl (Or.inl rfl) (pe_call G_l_bag (hr.mono (by decide)) (by rfl) T.g_l_bag T.F_l_bag.kp T.b_l_bag .nil pass0 (pa_cons (pv 0) pa_nil)))
      (pss_cons (ps_set (i := 2) sc_law.nd rfl (Or.inl rfl) (pe_call G_l_row (hr.mono (by decide)) (by rfl) T.g_l_row T.F_l_row.kp T.b_l_row .nil pass0 (pa_cons (pv 1) (pa_cons pe_int pa_nil))))
      (pss_cons (ps_if (pt_cmpR op_eq (pe_call G_l_take (hr.mono (by decide)) (by rfl) T.g_l_take T.F_l_take.kp T.b_l_take .nil pass0 (pa_cons (pv 1) (pa_cons pe_int pa_nil))) pe_int (nomark _))
      (pss_one (ps_set (i := 2) sc_law.nd rfl (Or.inl rfl) (pe_slice sl_str (pe_op op_mulS (pv 2) pe_int) po_none (po_some (pe_op op_sub pe_int (pe_call G_l_take (hr.mono (by decide)) (by rfl) T.g_l_take T.F_l_take.kp T.b_l_take .nil pass0 (pa_cons (pv 1) (pa_cons pe_int pa_nil))))))))
      pss_nil)
      (pss_cons (ps_set (i := 3) sc_law.nd rfl (Or.inl rfl) (pe_call G_l_other (hr.mono (by decide)) (by rfl) T.g_l_other T.F_l_other.kp T.b_l_other .nil pass0 (pa_cons (pv 1) (pa_cons (pv 2) pa_nil))))
      (pss_cons (ps_for PassesOwn.never rfl (pi_list (pe_lst (pa_cons (pe_call G_l_take (hr.mono (by decide)) (by rfl) T.g_l_take T.F_l_take.kp T.b_l_take .nil pass0 (pa_cons (pv 1) (pa_cons pe_int pa_nil))) (pa_cons (pe_call G_l_take (hr.mono (by decide)) (by rfl) T.g_l_take T.F_l_take.kp T.b_l_take .nil pass0 (pa_cons (pv 1) (pa_cons pe_int pa_nil))) (pa_cons pe_int pa_nil))))) (pg_name (i := 4) sc_law.nd rfl (Or.inl rfl))
      (pss_cons (ps_set (i := 5) sc_law.nd rfl (Or.inl rfl) (pe_call G_l_story (hr.mono (by decide)) (by rfl) T.g_l_story T.F_l_story.kp T.b_l_story .nil pass0 (pa_cons (pv 1) (pa_cons (pe_op op_sub (pe_callB call_len_str (by rfl) T.z_len PySem.boot_len (pa_cons (pv 2) pa_nil)) pe_int) (pa_cons (pv 4) pa_nil)))))
      (pss_one (ps_if (pt_not (pt_val (pe_call G_l_far_right (hr.mono (by decide)) (by rfl) T.g_l_far_right T.F_l_far_right.kp T.b_l_far_right .nil pass0 (pa_cons (pv 1) (pa_cons (pv 2) (pa_cons (pv 3) (pa_cons (pv 5) pa_nil)))))))
      (pss_one (ps_ret pe_bl))
      pss_nil))))
      (pss_cons (ps_set (i := 6) sc_law.nd rfl (Or.inl rfl) (pe_call G_l_story (hr.mono (by decide)) (by rfl) T.g_l_story T.F_l_story.kp T.b_l_story .nil pass0 (pa_cons (pv 1) (pa_cons (pe_op op_sub (pe_callB call_len_str (by rfl) T.z_len PySem.boot_len (pa_cons (pv 2) pa_nil)) pe_int) (pa_cons (pe_call G_l_take (hr.mono (by decide)) (by rfl) T.g_l_take T.F_l_take.kp T.b_l_take .nil pass0 (pa_cons (pv 1) (pa_cons pe_int pa_nil))) pa_nil)))))
      (pss_cons (ps_par (i := 7) (j := 8) (by rfl) sc_law.nd rfl rfl (by decide) rfl rfl (pa_cons (pe_call G_l_written (hr.mono (by decide)) (by rfl) T.g_l_written T.F_l_written.kp T.b_l_written .nil pass0 (pa_cons (pv 2) (pa_cons (pv 6) pa_nil))) (pa_cons (pe_call G_l_written (hr.mono (by decide)) (by rfl) T.g_l_written T.F_l_written.kp T.b_l_written .nil pass0 (pa_cons (pv 3) (pa_cons (pv 6) pa_nil))) pa_nil)) (by rfl))
      (pss_cons (ps_if (pt_cmpR op_ne (pe_cmpR op_lt_str (pv 7) (pv 8) (nomark _)) (pe_cmpR op_lt_str (pv 2) (pv 3) (nomark _)) (nomark _))
      (pss_one (ps_ret pe_bl))
      pss_nil)
      (pss_cons (ps_for PassesOwn.never rfl (pi_range1 (by rfl) T.z_range (pa_cons pe_int pa_nil)) (pg_name (i := 9) sc_law.nd rfl (Or.inl rfl))
      (pss_cons (ps_set (i := 10) sc_law.nd rfl (Or.inl rfl) (pe_call G_l_take (hr.mono (by decide)) (by rfl) T.g_l_take T.F_l_take.kp T.b_l_take .nil pass0 (pa_cons (pv 1) (pa_cons (pe_callB call_len_str (by rfl) T.z_len PySem.boot_len (pa_cons (pv 7) pa_nil)) pa_nil))))
      (pss_one (ps_if (pt_cmpR op_ne (pe_cmpR op_lt_str (pe_call G_l_called (hr.mono (by decide)) (by rfl) T.g_l_called T.F_l_called.kp T.b_l_called .nil pass0 (pa_cons (pv 7) (pa_cons (pv 10) pa_nil))) (pe_call G_l_called (hr.mono (by decide)) (by rfl) T.g_l_called T.F_l_called.kp T.b_l_called .nil pass0 (pa_cons (pv 8) (pa_cons (pv 10) pa_nil))) (nomark _)) (pe_cmpR op_lt_str (pv 2) (pv 3) (nomark _)) (nomark _))
      (pss_one (ps_ret pe_bl))
      pss_nil))))
      (pss_one (ps_ret pe_bl))))))))))), ?_⟩
    refine s_seqK (fun σ H' => ∃ b : Addr, Bag H' b ∧ σ = [some (.ref q), some (.ref b), none, none, none, none, none, none, none, none, none]) ?_ ?_
    · rintro σ H1 ⟨b, B1, rfl⟩
      with_reducible refine s_seqK (fun σ H' => ∃ z : Str, Row z ∧ Bag H' b ∧ σ = [some (.ref q), some (.ref b), some (.str z), none, none, none, none, none, none, none, none]) ?_ ?_
      · rintro σ H2 ⟨z, rz, B2, rfl⟩
        with_reducible refine s_seqK (fun σ H' => ∃ z : Str, Row z ∧ Bag H' b ∧ σ = [some (.ref q), some (.ref b), some (.str z), none, none, none, none, none, none, none, none]) ?_ ?_
        · clear rz B2
          rintro σ H2 ⟨z, rz, B2, rfl⟩
          have z2 := rz.1
          have z3 := rz.2.1
          have fz := rz.fits
          walk_at "ks"
          refine ⟨b, z, rfl, B2, rz, fun H3 u r3 hu lowu ne => ?_⟩
          have ru : Row u := ⟨by omega, by omega, lowu⟩
          walk_at "ks"
          refine ⟨b, _, rfl, r3.bag, by decide, by decide, fun x1 H4 x10 x11 r4 => ?_⟩
          walk_at "ks"
          refine ⟨b, _, rfl, r4.bag, by decide, by decide, fun x2 H5 x20 x21 r5 => ?_⟩
          obtain ⟨x1, rfl⟩ := Int.eq_ofNat_of_zero_le x10
          obtain ⟨x2, rfl⟩ := Int.eq_ofNat_of_zero_le x20
          walk_at "ks"
          refine ⟨by show 3 ≤ sizeLine; decide, fun p hp => ?_⟩
          have e3 : ([.int (x1 : Nat), .int (x2 : Nat), .int 64] : List V) = cI [x1, x2, 64] := rfl
          rw [e3]
          have B5 := r5.bag
          have B6 : Bag (upd H5 p (.lst (cI [x1, x2, 64]))) b := B5.same (same_new hp)
          have hp6 : (upd H5 p (.lst (cI [x1, x2, 64]))) p = some (.lst (cI [x1, x2, 64])) := upd_same
          revert B6 hp6
          generalize upd H5 p (.lst (cI [x1, x2, 64])) = H6
          intro B6 hp6
          walk_at "ks"
          refine ⟨p, rfl, ⟨_, SqL.of hp6⟩, for_list (K := K) (a := p) (xs := cI [x1, x2, 64]) (fun i σ H' => Rel b H6 H' ∧ ∃ v4 v5 : Option V, σ = [some (.ref q), some (.ref b), some (.str z), some (.str u), v4, v5, none, none, none, none, none])
            ⟨Rel.refl B6, none, none, rfl⟩ (fun i σ H' _ q => SqL.of (q.1.cI B6 hp6)) ?_ ?_⟩
          · rintro i v σ H7 hi ⟨r7, v4, v5, rfl⟩
            obtain ⟨c, hc, rfl⟩ := of_cI hi
            have hc64 : c ≤ 64 := by
              have hm : c = x1 ∨ c = x2 ∨ c = 64 := by simpa using List.mem_of_getElem? hc
              omega
            show tSeq _ _ _ _ _
            walk_at "ks"
            refine ⟨z, rfl, fz, ?_⟩
            walk_at "ks"
            rw [sub1 (show 1 ≤ z.length by omega)]
            refine ⟨b, z.length - 1, c, rfl, r7.bag, by omega, hc64, fun H8 l cs r8 hl0 hl hcl ok => ?_⟩
            walk_at "ks"
            refine ⟨b, l, z, u, cs, rfl, r8.bag, rz, ru, hu, ne, hl, by omega, ok, fun H9 r9 => ?_⟩
            walk_at "ks"
            refine iteF ?_
            walk_at "ks"
            exact ⟨(r7.trans r8).trans r9, _, _, rfl⟩
          · rintro σ H7 ⟨r7, v4, v5, rfl⟩
            walk_at "ks"
            refine ⟨z, rfl, fz, ?_⟩
            walk_at "ks"
            rw [sub1 (show 1 ≤ z.length by omega)]
            refine ⟨b, _, rfl, r7.bag, by decide, by decide, fun x3 H8 x30 x31 r8 => ?_⟩
            obtain ⟨x3, rfl⟩ := Int.eq_ofNat_of_zero_le x30
            walk_at "ks"
            refine ⟨b, z.length - 1, x3, rfl, r8.bag, by omega, by omega, fun H9 l cs r9 hl0 hl hcl ok => ?_⟩
            walk_at "ks"
            refine ⟨z, l, cs, rfl, hl, by omega, z3, by omega, ok, fun w1 hw1 => ?_⟩
            walk_at "ks"
            refine ⟨u, l, cs, rfl, hl, by omega, by omega, by omega, by rw [hu]; exact ok, fun w2 hw2 => ?_⟩
            walk_at "ks"
            refine ⟨_, _, rfl, ?_⟩
            have lz := len_tl z
            have lu := len_tl u
            have lt1 := writeL_lt cs (tl z) (tl u) (z.length - 1) (by omega) (by omega) ok
            have lw1 := writeL_len cs (tl z) (z.length - 1) (by omega) ok
            have lw2 := writeL_len cs (tl u) (z.length - 1) (by omega) ok
            rw [← hw1, ← hw2] at lt1
            rw [← hw1, ← len_tl] at lw1
            rw [← hw2, ← len_tl] at lw2
            have lb := lastN_le cs (z.length - 1)
            have lp : 2 ^ cs.length ≤ 2 ^ 3 := Nat.pow_le_pow_right (by decide) (by omega)
            have lm : (z.length - 1) * 2 ^ cs.length ≤ 999 * 2 ^ 3 := Nat.mul_le_mul (by omega) lp
            walk_at "ks"
            refine ⟨_, _, rfl, rfl, ?_⟩
            walk_at "ks"
            refine ⟨_, _, rfl, rfl, ?_⟩
            walk_at "ks"
            refine neq_same lt1 ?_
            walk_at "ks"
            refine ⟨_, rfl, by decide, by decide, ?_⟩
            refine for_range (lo := 0) (n := 6) (fun i σ H' => Bag H' b ∧ ∃ v4 v5 v9 v10 : Option V, σ = [some (.ref q), some (.ref b), some (.str z), some (.str u), v4, v5, some (.ref l), some (.str w1), some (.str w2), v9, v10])
              ⟨r9.bag, _, _, none, none, rfl⟩ ?_ ?_
            · rintro i σ H10 hi ⟨B10, v4, v5, v9, v10, rfl⟩
              show tSeq _ _ _ _ _
              walk_at "ks"
              refine ⟨w1, rfl, by omega, ?_⟩
              walk_at "ks"
              refine ⟨b, _, rfl, B10, by omega, by omega, fun x H11 y0 y1 r11 => ?_⟩
              obtain ⟨x, rfl⟩ := Int.eq_ofNat_of_zero_le y0
              have hx : x < w1.length := by omega
              walk_at "ks"
              refine ⟨w1, x, rfl, hx, by omega, fun c1 hc1 => ?_⟩
              walk_at "ks"
              refine ⟨w2, x, rfl, by omega, by omega, fun c2 hc2 => ?_⟩
              have lt2 := callL_lt (r := tl w1) (o := tl w2) (p := x) (by rw [← len_tl, ← len_tl]; omega) (by rw [← len_tl]; exact hx)
              rw [← hc1, ← hc2] at lt2
              refine ⟨_, _, rfl, rfl, ?_⟩
              walk_at "ks"
              refine ⟨_, _, rfl, rfl, ?_⟩
              walk_at "ks"
              refine neq_same (lt2.trans lt1) ?_
              walk_at "ks"
              exact ⟨r11.bag, _, _, _, _, rfl⟩
            · rintro σ H10 ⟨B10, v4, v5, v9, v10, rfl⟩
              walk_at "ks"
              exact k H10
        · intro N hN
          have z2 := rz.1
          have z3 := rz.2.1
          walk_at "ks"
          refine ⟨b, _, rfl, B2, by decide, by decide, fun x H3 x0 x1 r3 => ?_⟩
          walk_at "ks"
          refine ite2 (fun e => ?_) (fun e => ?_)
          · walk_at "ks"
            refine s_mulS ⟨z, 500, rfl, rfl, by decide, by decide, by show z.length * 500 ≤ _; omega, fun U hU => ?_⟩
            have hU : tl U = (List.replicate 500 (tl z)).flatten := hU
            have lU : U.length = 500 * z.length := by
              rw [len_tl, hU, List.length_flatten, List.map_replicate, List.sum_replicate_nat, ← len_tl]
            walk_at "ks"
            refine ⟨b, _, rfl, r3.bag, by decide, by decide, fun y H4 y0 y1 r4 => ?_⟩
            obtain ⟨y, rfl⟩ := Int.eq_ofNat_of_zero_le y0
            walk_at "ks"
            refine ⟨_, rfl, U, rfl, by omega, ?_⟩
            rw [show ((1000 : Int) - ((y : Nat) : Int)) = ((1000 - y : Nat) : Int) by omega]
            have hV := cutS_to U (1000 - y)
            revert hV
            generalize cutS U none (some ((1000 - y : Nat) : Int)) = Wd
            intro hV
            have lV : Wd.length = 1000 - y := by rw [len_tl, hV, List.length_take, ← len_tl]; omega
            have lowV : Low Wd := fun c hc => by
              rw [hV] at hc
              have h2 := List.mem_of_mem_take hc
              rw [hU] at h2
              obtain ⟨l, hl1, hl2⟩ := List.mem_flatten.mp h2
              rw [(List.mem_replicate.mp hl1).2] at hl2
              exact rz.2.2 c hl2
            exact hN _ _ ⟨Wd, ⟨by omega, by omega, lowV⟩, r4.bag, rfl⟩
          · walk_at "ks"
            exact hN _ _ ⟨z, rz, r3.bag, rfl⟩
      · intro N hN
        walk_at "ks"
        refine ⟨b, 40, rfl, B1, by decide, by decide, fun z H2 l1 l2 low r2 => ?_⟩
        exact hN _ _ ⟨z, ⟨l1, by omega, low⟩, r2.bag, rfl⟩
    · intro N hN
      walk_at "ks"
      refine ⟨q, ns, rfl, hs, hn, fun H1 b s1 hb B1 => ?_⟩
      exact hN _ _ ⟨b, B1, rfl⟩

end
section
variable {P : Program} {w : World} {K : PySem.W.Frag} {mg : Str → Option Value} {base : Heap} {a : Ad}
/-- all of it, from the facts of the top -/
theorem ok_all (T : Tx K mg a) : FnOk P w K mg base CX0 9 a.law.1 a.law.2 p_law (sp_law K) := by
  have G_is_integer : FnOk P w K mg base CX0 1 a.is_integer.1 a.is_integer.2 p_is_integer sp_is_integer := ok_is_integer T
  have G_is_between : FnOk P w K mg base CX0 2 a.is_between.1 a.is_between.2 p_is_between sp_is_between := ok_is_between T G_is_integer
  have G_shown : FnOk P w K mg base CX0 1 a.shown.1 a.shown.2 p_shown sp_shown := ok_shown T
  have G_is_story : FnOk P w K mg base CX0 3 a.is_story.1 a.is_story.2 p_is_story sp_is_story := ok_is_story T G_is_between
  have G_is_text : FnOk P w K mg base CX0 1 a.is_text.1 a.is_text.2 p_is_text sp_is_text := ok_is_text T
  have G_is_row : FnOk P w K mg base CX0 2 a.is_row.1 a.is_row.2 p_is_row sp_is_row := ok_is_row T G_is_text
  have G_f_init : FnOk P w K mg base CX0 4 a.f_init.1 a.f_init.2 p_f_init (sp_f_init a.C) := ok_f_init T G_is_row G_is_story
  have G_f_lasts : FnOk P w K mg base CX0 1 a.f_lasts.1 a.f_lasts.2 p_f_lasts (sp_f_lasts a.C) := ok_f_lasts T
  have G_f_length : FnOk P w K mg base CX0 2 a.f_length.1 a.f_length.2 p_f_length (sp_f_length a.C) := ok_f_length T G_f_lasts
  have G_f_check : FnOk P w K mg base CX0 3 a.f_check.1 a.f_check.2 p_f_check (sp_f_check a.C) := ok_f_check T G_f_length
  have G_f_origins : FnOk P w K mg base CX0 4 a.f_origins.1 a.f_origins.2 p_f_origins (sp_f_origins a.C) := ok_f_origins T G_f_lasts G_f_check G_shown
  have G_f_letter : FnOk P w K mg base CX0 5 a.f_letter.1 a.f_letter.2 p_f_letter (sp_f_letter a.C) := ok_f_letter T G_f_origins
  have G_f_called : FnOk P w K mg base CX0 6 a.f_called.1 a.f_called.2 p_f_called (sp_f_called a.C) := ok_f_called T G_f_init G_f_letter
  have G_places_apart : FnOk P w K mg base CX0 1 a.places_apart.1 a.places_apart.2 p_places_apart sp_places_apart := ok_places_apart T
  have G_first_difference : FnOk P w K mg base CX0 2 a.first_difference.1 a.first_difference.2 p_first_difference sp_first_difference := ok_first_difference T G_places_apart
  have G_last_difference : FnOk P w K mg base CX0 2 a.last_difference.1 a.last_difference.2 p_last_difference sp_last_difference := ok_last_difference T G_places_apart
  have G_differences : FnOk P w K mg base CX0 7 a.differences.1 a.differences.2 p_differences sp_differences := ok_differences T G_places_apart G_f_init G_f_called
  have G_l_bag : FnOk P w K mg base CX0 1 a.l_bag.1 a.l_bag.2 p_l_bag (sp_l_bag K) := ok_l_bag T
  have G_l_take : FnOk P w K mg base CX0 1 a.l_take.1 a.l_take.2 p_l_take sp_l_take := ok_l_take T
  have G_l_any_word : FnOk P w K mg base CX0 2 a.l_any_word.1 a.l_any_word.2 p_l_any_word sp_l_any_word := ok_l_any_word T G_l_take
  have G_l_row : FnOk P w K mg base CX0 3 a.l_row.1 a.l_row.2 p_l_row sp_l_row := ok_l_row T G_l_take G_l_any_word
  have G_l_called : FnOk P w K mg base CX0 1 a.l_called.1 a.l_called.2 p_l_called sp_l_called := ok_l_called T
  have G_l_written : FnOk P w K mg base CX0 2 a.l_written.1 a.l_written.2 p_l_written sp_l_written := ok_l_written T G_l_called
  have G_l_story : FnOk P w K mg base CX0 2 a.l_story.1 a.l_story.2 p_l_story sp_l_story := ok_l_story T G_l_take
  have G_l_from : FnOk P w K mg base CX0 1 a.l_from.1 a.l_from.2 p_l_from sp_l_from := ok_l_from T
  have G_l_other : FnOk P w K mg base CX0 2 a.l_other.1 a.l_other.2 p_l_other sp_l_other := ok_l_other T G_l_take
  have G_l_number : FnOk P w K mg base CX0 2 a.l_number.1 a.l_number.2 p_l_number sp_l_number := ok_l_number T G_l_from
  have G_l_equal : FnOk P w K mg base CX0 2 a.l_equal.1 a.l_equal.2 p_l_equal sp_l_equal := ok_l_equal T G_l_from
  have G_l_far_right : FnOk P w K mg base CX0 8 a.l_far_right.1 a.l_far_right.2 p_l_far_right sp_l_far_right := ok_l_far_right T G_l_take G_first_difference G_last_difference G_f_init G_f_length G_l_from G_l_equal G_differences G_l_number
  have G_law : FnOk P w K mg base CX0 9 a.law.1 a.law.2 p_law (sp_law K) := ok_law T G_l_bag G_l_take G_l_row G_l_other G_l_story G_l_far_right G_l_written G_l_called
  exact G_law
end
/-! ### what the top has written -/
theorem all_mk {l : PySem.W.OpenLaw} {w : World} {K : PySem.W.Frag} {h : Heap} {mg : Str → Option Value} {fa C : Addr} {tL tM tC : Tok} (X : K.In h) (G : h.Ns mainGlobals mg) (hfa : mg "law" = some (.ref fa))
    {f0 : Addr} {od0 an0 : Option Addr} {sl0 : Array (Option Value)} {oc0 kV0 dc0 pm0 cd0 ct0 : Value}
    {f1 : Addr} {od1 an1 : Option Addr} {sl1 : Array (Option Value)} {oc1 kV1 dc1 pm1 cd1 ct1 : Value}
    {f2 : Addr} {od2 an2 : Option Addr} {sl2 : Array (Option Value)} {oc2 kV2 dc2 pm2 cd2 ct2 : Value}
    {f3 : Addr} {od3 an3 : Option Addr} {sl3 : Array (Option Value)} {oc3 kV3 dc3 pm3 cd3 ct3 : Value}
    {f4 : Addr} {od4 an4 : Option Addr} {sl4 : Array (Option Value)} {oc4 kV4 dc4 pm4 cd4 ct4 : Value}
    {f5 : Addr} {od5 an5 : Option Addr} {sl5 : Array (Option Value)} {oc5 kV5 dc5 pm5 cd5 ct5 : Value}
    {f6 : Addr} {od6 an6 : Option Addr} {sl6 : Array (Option Value)} {oc6 kV6 dc6 pm6 cd6 ct6 : Value}
    {f7 : Addr} {od7 an7 : Option Addr} {sl7 : Array (Option Value)} {oc7 kV7 dc7 pm7 cd7 ct7 : Value}
    {f8 : Addr} {od8 an8 : Option Addr} {sl8 : Array (Option Value)} {oc8 kV8 dc8 pm8 cd8 ct8 : Value}
    {f9 : Addr} {od9 an9 : Option Addr} {sl9 : Array (Option Value)} {oc9 kV9 dc9 pm9 cd9 ct9 : Value}
    {f10 : Addr} {od10 an10 : Option Addr} {sl10 : Array (Option Value)} {oc10 kV10 dc10 pm10 cd10 ct10 : Value}
    {f11 : Addr} {od11 an11 : Option Addr} {sl11 : Array (Option Value)} {oc11 kV11 dc11 pm11 cd11 ct11 : Value}
    {f12 : Addr} {od12 an12 : Option Addr} {sl12 : Array (Option Value)} {oc12 kV12 dc12 pm12 cd12 ct12 : Value}
    {f13 : Addr} {od13 an13 : Option Addr} {sl13 : Array (Option Value)} {oc13 kV13 dc13 pm13 cd13 ct13 : Value}
    {f14 : Addr} {od14 an14 : Option Addr} {sl14 : Array (Option Value)} {oc14 kV14 dc14 pm14 cd14 ct14 : Value}
    {f15 : Addr} {od15 an15 : Option Addr} {sl15 : Array (Option Value)} {oc15 kV15 dc15 pm15 cd15 ct15 : Value}
    {f16 : Addr} {od16 an16 : Option Addr} {sl16 : Array (Option Value)} {oc16 kV16 dc16 pm16 cd16 ct16 : Value}
    {f17 : Addr} {od17 an17 : Option Addr} {sl17 : Array (Option Value)} {oc17 kV17 dc17 pm17 cd17 ct17 : Value}
    {f18 : Addr} {od18 an18 : Option Addr} {sl18 : Array (Option Value)} {oc18 kV18 dc18 pm18 cd18 ct18 : Value}
    {f19 : Addr} {od19 an19 : Option Addr} {sl19 : Array (Option Value)} {oc19 kV19 dc19 pm19 cd19 ct19 : Value}
    {f20 : Addr} {od20 an20 : Option Addr} {sl20 : Array (Option Value)} {oc20 kV20 dc20 pm20 cd20 ct20 : Value}
    {f21 : Addr} {od21 an21 : Option Addr} {sl21 : Array (Option Value)} {oc21 kV21 dc21 pm21 cd21 ct21 : Value}
    {f22 : Addr} {od22 an22 : Option Addr} {sl22 : Array (Option Value)} {oc22 kV22 dc22 pm22 cd22 ct22 : Value}
    {f23 : Addr} {od23 an23 : Option Addr} {sl23 : Array (Option Value)} {oc23 kV23 dc23 pm23 cd23 ct23 : Value}
    {f24 : Addr} {od24 an24 : Option Addr} {sl24 : Array (Option Value)} {oc24 kV24 dc24 pm24 cd24 ct24 : Value}
    {f25 : Addr} {od25 an25 : Option Addr} {sl25 : Array (Option Value)} {oc25 kV25 dc25 pm25 cd25 ct25 : Value}
    {f26 : Addr} {od26 an26 : Option Addr} {sl26 : Array (Option Value)} {oc26 kV26 dc26 pm26 cd26 ct26 : Value}
    {f27 : Addr} {od27 an27 : Option Addr} {sl27 : Array (Option Value)} {oc27 kV27 dc27 pm27 cd27 ct27 : Value}
    {f28 : Addr} {od28 an28 : Option Addr} {sl28 : Array (Option Value)} {oc28 kV28 dc28 pm28 cd28 ct28 : Value}
    {f29 : Addr} {od29 an29 : Option Addr} {sl29 : Array (Option Value)} {oc29 kV29 dc29 pm29 cd29 ct29 : Value}
    (a0 : PySem.W.nsIn K mainGlobals "is_integer" = some (some (.ref f0)))
    (l0 : K.lookup f0 = some ⟨oc0, od0, .func (PySem.W.fnOf "is_integer" "is_integer" (defArgs s_is_integer) (defBody s_is_integer) (defScope s_is_integer) .none kV0 dc0 pm0 an0 cd0 ct0), sl0⟩)
    (c0 : PySem.W.codeIn K cd0 "is_integer" = true)
    (k0 : PySem.W.keepIn K (.ref f0) = true)
    (a1 : PySem.W.nsIn K mainGlobals "is_between" = some (some (.ref f1)))
    (l1 : K.lookup f1 = some ⟨oc1, od1, .func (PySem.W.fnOf "is_between" "is_between" (defArgs s_is_between) (defBody s_is_between) (defScope s_is_between) .none kV1 dc1 pm1 an1 cd1 ct1), sl1⟩)
    (c1 : PySem.W.codeIn K cd1 "is_between" = true)
    (k1 : PySem.W.keepIn K (.ref f1) = true)
    (a2 : PySem.W.nsIn K mainGlobals "is_text" = some (some (.ref f2)))
    (l2 : K.lookup f2 = some ⟨oc2, od2, .func (PySem.W.fnOf "is_text" "is_text" (defArgs s_is_text) (defBody s_is_text) (defScope s_is_text) .none kV2 dc2 pm2 an2 cd2 ct2), sl2⟩)
    (c2 : PySem.W.codeIn K cd2 "is_text" = true)
    (k2 : PySem.W.keepIn K (.ref f2) = true)
    (a3 : PySem.W.nsIn K mainGlobals "is_row" = some (some (.ref f3)))
    (l3 : K.lookup f3 = some ⟨oc3, od3, .func (PySem.W.fnOf "is_row" "is_row" (defArgs s_is_row) (defBody s_is_row) (defScope s_is_row) .none kV3 dc3 pm3 an3 cd3 ct3), sl3⟩)
    (c3 : PySem.W.codeIn K cd3 "is_row" = true)
    (k3 : PySem.W.keepIn K (.ref f3) = true)
    (a4 : PySem.W.nsIn K mainGlobals "is_story" = some (some (.ref f4)))
    (l4 : K.lookup f4 = some ⟨oc4, od4, .func (PySem.W.fnOf "is_story" "is_story" (defArgs s_is_story) (defBody s_is_story) (defScope s_is_story) .none kV4 dc4 pm4 an4 cd4 ct4), sl4⟩)
    (c4 : PySem.W.codeIn K cd4 "is_story" = true)
    (k4 : PySem.W.keepIn K (.ref f4) = true)
    (a5 : PySem.W.nsIn K mainGlobals "shown" = some (some (.ref f5)))
    (l5 : K.lookup f5 = some ⟨oc5, od5, .func (PySem.W.fnOf "shown" "shown" (defArgs s_shown) (defBody s_shown) (defScope s_shown) .none kV5 dc5 pm5 an5 cd5 ct5), sl5⟩)
    (c5 : PySem.W.codeIn K cd5 "shown" = true)
    (k5 : PySem.W.keepIn K (.ref f5) = true)
    (a6 : PySem.W.findIn K (.ref C) "__init__" = some (some (.ref f6)))
    (i6 : PySem.W.isFn K (.ref f6) = true)
    (l6 : K.lookup f6 = some ⟨oc6, od6, .func (PySem.W.fnOf "__init__" "Far.__init__" (defArgs s_f_init) (defBody s_f_init) (defScope s_f_init) .none kV6 dc6 pm6 an6 cd6 ct6), sl6⟩)
    (c6 : PySem.W.codeIn K cd6 "Far.__init__" = true)
    (k6 : PySem.W.keepIn K (.ref f6) = true)
    (a7 : PySem.W.findIn K (.ref C) "lasts" = some (some (.ref f7)))
    (i7 : PySem.W.isFn K (.ref f7) = true)
    (l7 : K.lookup f7 = some ⟨oc7, od7, .func (PySem.W.fnOf "lasts" "Far.lasts" (defArgs s_f_lasts) (defBody s_f_lasts) (defScope s_f_lasts) .none kV7 dc7 pm7 an7 cd7 ct7), sl7⟩)
    (c7 : PySem.W.codeIn K cd7 "Far.lasts" = true)
    (k7 : PySem.W.keepIn K (.ref f7) = true)
    (a8 : PySem.W.findIn K (.ref C) "length" = some (some (.ref f8)))
    (i8 : PySem.W.isFn K (.ref f8) = true)
    (l8 : K.lookup f8 = some ⟨oc8, od8, .func (PySem.W.fnOf "length" "Far.length" (defArgs s_f_length) (defBody s_f_length) (defScope s_f_length) .none kV8 dc8 pm8 an8 cd8 ct8), sl8⟩)
    (c8 : PySem.W.codeIn K cd8 "Far.length" = true)
    (k8 : PySem.W.keepIn K (.ref f8) = true)
    (a9 : PySem.W.findIn K (.ref C) "check" = some (some (.ref f9)))
    (i9 : PySem.W.isFn K (.ref f9) = true)
    (l9 : K.lookup f9 = some ⟨oc9, od9, .func (PySem.W.fnOf "check" "Far.check" (defArgs s_f_check) (defBody s_f_check) (defScope s_f_check) .none kV9 dc9 pm9 an9 cd9 ct9), sl9⟩)
    (c9 : PySem.W.codeIn K cd9 "Far.check" = true)
    (k9 : PySem.W.keepIn K (.ref f9) = true)
    (a10 : PySem.W.findIn K (.ref C) "origins" = some (some (.ref f10)))
    (i10 : PySem.W.isFn K (.ref f10) = true)
    (l10 : K.lookup f10 = some ⟨oc10, od10, .func (PySem.W.fnOf "origins" "Far.origins" (defArgs s_f_origins) (defBody s_f_origins) (defScope s_f_origins) .none kV10 dc10 pm10 an10 cd10 ct10), sl10⟩)
    (c10 : PySem.W.codeIn K cd10 "Far.origins" = true)
    (k10 : PySem.W.keepIn K (.ref f10) = true)
    (a11 : PySem.W.findIn K (.ref C) "letter" = some (some (.ref f11)))
    (i11 : PySem.W.isFn K (.ref f11) = true)
    (l11 : K.lookup f11 = some ⟨oc11, od11, .func (PySem.W.fnOf "letter" "Far.letter" (defArgs s_f_letter) (defBody s_f_letter) (defScope s_f_letter) .none kV11 dc11 pm11 an11 cd11 ct11), sl11⟩)
    (c11 : PySem.W.codeIn K cd11 "Far.letter" = true)
    (k11 : PySem.W.keepIn K (.ref f11) = true)
    (a12 : PySem.W.findIn K (.ref C) "called" = some (some (.ref f12)))
    (i12 : PySem.W.isFn K (.ref f12) = true)
    (l12 : K.lookup f12 = some ⟨oc12, od12, .func (PySem.W.fnOf "called" "Far.called" (defArgs s_f_called) (defBody s_f_called) (defScope s_f_called) .none kV12 dc12 pm12 an12 cd12 ct12), sl12⟩)
    (c12 : PySem.W.codeIn K cd12 "Far.called" = true)
    (k12 : PySem.W.keepIn K (.ref f12) = true)
    (a13 : PySem.W.nsIn K mainGlobals "places_apart" = some (some (.ref f13)))
    (l13 : K.lookup f13 = some ⟨oc13, od13, .func (PySem.W.fnOf "places_apart" "places_apart" (defArgs s_places_apart) (defBody s_places_apart) (defScope s_places_apart) .none kV13 dc13 pm13 an13 cd13 ct13), sl13⟩)
    (c13 : PySem.W.codeIn K cd13 "places_apart" = true)
    (k13 : PySem.W.keepIn K (.ref f13) = true)
    (a14 : PySem.W.nsIn K mainGlobals "first_difference" = some (some (.ref f14)))
    (l14 : K.lookup f14 = some ⟨oc14, od14, .func (PySem.W.fnOf "first_difference" "first_difference" (defArgs s_first_difference) (defBody s_first_difference) (defScope s_first_difference) .none kV14 dc14 pm14 an14 cd14 ct14), sl14⟩)
    (c14 : PySem.W.codeIn K cd14 "first_difference" = true)
    (k14 : PySem.W.keepIn K (.ref f14) = true)
    (a15 : PySem.W.nsIn K mainGlobals "last_difference" = some (some (.ref f15)))
    (l15 : K.lookup f15 = some ⟨oc15, od15, .func (PySem.W.fnOf "last_difference" "last_difference" (defArgs s_last_difference) (defBody s_last_difference) (defScope s_last_difference) .none kV15 dc15 pm15 an15 cd15 ct15), sl15⟩)
    (c15 : PySem.W.codeIn K cd15 "last_difference" = true)
    (k15 : PySem.W.keepIn K (.ref f15) = true)
    (a16 : PySem.W.nsIn K mainGlobals "differences" = some (some (.ref f16)))
    (l16 : K.lookup f16 = some ⟨oc16, od16, .func (PySem.W.fnOf "differences" "differences" (defArgs s_differences) (defBody s_differences) (defScope s_differences) .none kV16 dc16 pm16 an16 cd16 ct16), sl16⟩)
    (c16 : PySem.W.codeIn K cd16 "differences" = true)
    (k16 : PySem.W.keepIn K (.ref f16) = true)
    (a17 : PySem.W.nsIn K mainGlobals "_law_bag" = some (some (.ref f17)))
    (l17 : K.lookup f17 = some ⟨oc17, od17, .func (PySem.W.fnOf "_law_bag" "_law_bag" (defArgs s_l_bag) (defBody s_l_bag) (defScope s_l_bag) .none kV17 dc17 pm17 an17 cd17 ct17), sl17⟩)
    (c17 : PySem.W.codeIn K cd17 "_law_bag" = true)
    (k17 : PySem.W.keepIn K (.ref f17) = true)
    (a18 : PySem.W.nsIn K mainGlobals "_law_take" = some (some (.ref f18)))
    (l18 : K.lookup f18 = some ⟨oc18, od18, .func (PySem.W.fnOf "_law_take" "_law_take" (defArgs s_l_take) (defBody s_l_take) (defScope s_l_take) .none kV18 dc18 pm18 an18 cd18 ct18), sl18⟩)
    (c18 : PySem.W.codeIn K cd18 "_law_take" = true)
    (k18 : PySem.W.keepIn K (.ref f18) = true)
    (a19 : PySem.W.nsIn K mainGlobals "_law_any_word" = some (some (.ref f19)))
    (l19 : K.lookup f19 = some ⟨oc19, od19, .func (PySem.W.fnOf "_law_any_word" "_law_any_word" (defArgs s_l_any_word) (defBody s_l_any_word) (defScope s_l_any_word) .none kV19 dc19 pm19 an19 cd19 ct19), sl19⟩)
    (c19 : PySem.W.codeIn K cd19 "_law_any_word" = true)
    (k19 : PySem.W.keepIn K (.ref f19) = true)
    (a20 : PySem.W.nsIn K mainGlobals "_law_row" = some (some (.ref f20)))
    (l20 : K.lookup f20 = some ⟨oc20, od20, .func (PySem.W.fnOf "_law_row" "_law_row" (defArgs s_l_row) (defBody s_l_row) (defScope s_l_row) .none kV20 dc20 pm20 an20 cd20 ct20), sl20⟩)
    (c20 : PySem.W.codeIn K cd20 "_law_row" = true)
    (k20 : PySem.W.keepIn K (.ref f20) = true)
    (a21 : PySem.W.nsIn K mainGlobals "_law_called" = some (some (.ref f21)))
    (l21 : K.lookup f21 = some ⟨oc21, od21, .func (PySem.W.fnOf "_law_called" "_law_called" (defArgs s_l_called) (defBody s_l_called) (defScope s_l_called) .none kV21 dc21 pm21 an21 cd21 ct21), sl21⟩)
    (c21 : PySem.W.codeIn K cd21 "_law_called" = true)
    (k21 : PySem.W.keepIn K (.ref f21) = true)
    (a22 : PySem.W.nsIn K mainGlobals "_law_written" = some (some (.ref f22)))
    (l22 : K.lookup f22 = some ⟨oc22, od22, .func (PySem.W.fnOf "_law_written" "_law_written" (defArgs s_l_written) (defBody s_l_written) (defScope s_l_written) .none kV22 dc22 pm22 an22 cd22 ct22), sl22⟩)
    (c22 : PySem.W.codeIn K cd22 "_law_written" = true)
    (k22 : PySem.W.keepIn K (.ref f22) = true)
    (a23 : PySem.W.nsIn K mainGlobals "_law_story" = some (some (.ref f23)))
    (l23 : K.lookup f23 = some ⟨oc23, od23, .func (PySem.W.fnOf "_law_story" "_law_story" (defArgs s_l_story) (defBody s_l_story) (defScope s_l_story) .none kV23 dc23 pm23 an23 cd23 ct23), sl23⟩)
    (c23 : PySem.W.codeIn K cd23 "_law_story" = true)
    (k23 : PySem.W.keepIn K (.ref f23) = true)
    (a24 : PySem.W.nsIn K mainGlobals "_law_from" = some (some (.ref f24)))
    (l24 : K.lookup f24 = some ⟨oc24, od24, .func (PySem.W.fnOf "_law_from" "_law_from" (defArgs s_l_from) (defBody s_l_from) (defScope s_l_from) .none kV24 dc24 pm24 an24 cd24 ct24), sl24⟩)
    (c24 : PySem.W.codeIn K cd24 "_law_from" = true)
    (k24 : PySem.W.keepIn K (.ref f24) = true)
    (a25 : PySem.W.nsIn K mainGlobals "_law_other" = some (some (.ref f25)))
    (l25 : K.lookup f25 = some ⟨oc25, od25, .func (PySem.W.fnOf "_law_other" "_law_other" (defArgs s_l_other) (defBody s_l_other) (defScope s_l_other) .none kV25 dc25 pm25 an25 cd25 ct25), sl25⟩)
    (c25 : PySem.W.codeIn K cd25 "_law_other" = true)
    (k25 : PySem.W.keepIn K (.ref f25) = true)
    (a26 : PySem.W.nsIn K mainGlobals "_law_number" = some (some (.ref f26)))
    (l26 : K.lookup f26 = some ⟨oc26, od26, .func (PySem.W.fnOf "_law_number" "_law_number" (defArgs s_l_number) (defBody s_l_number) (defScope s_l_number) .none kV26 dc26 pm26 an26 cd26 ct26), sl26⟩)
    (c26 : PySem.W.codeIn K cd26 "_law_number" = true)
    (k26 : PySem.W.keepIn K (.ref f26) = true)
    (a27 : PySem.W.nsIn K mainGlobals "_law_equal" = some (some (.ref f27)))
    (l27 : K.lookup f27 = some ⟨oc27, od27, .func (PySem.W.fnOf "_law_equal" "_law_equal" (defArgs s_l_equal) (defBody s_l_equal) (defScope s_l_equal) .none kV27 dc27 pm27 an27 cd27 ct27), sl27⟩)
    (c27 : PySem.W.codeIn K cd27 "_law_equal" = true)
    (k27 : PySem.W.keepIn K (.ref f27) = true)
    (a28 : PySem.W.nsIn K mainGlobals "_law_far_right" = some (some (.ref f28)))
    (l28 : K.lookup f28 = some ⟨oc28, od28, .func (PySem.W.fnOf "_law_far_right" "_law_far_right" (defArgs s_l_far_right) (defBody s_l_far_right) (defScope s_l_far_right) .none kV28 dc28 pm28 an28 cd28 ct28), sl28⟩)
    (c28 : PySem.W.codeIn K cd28 "_law_far_right" = true)
    (k28 : PySem.W.keepIn K (.ref f28) = true)
    (a29 : PySem.W.nsIn K mainGlobals "law" = some (some (.ref f29)))
    (l29 : K.lookup f29 = some ⟨oc29, od29, .func (PySem.W.fnOf "law" "law" (defArgs s_law) (defBody s_law) (defScope s_law) .none kV29 dc29 pm29 an29 cd29 ct29), sl29⟩)
    (c29 : PySem.W.codeIn K cd29 "law" = true)
    (k29 : PySem.W.keepIn K (.ref f29) = true)
    (aC : PySem.W.nsIn K mainGlobals "Far" = some (some (.ref C)))
    (pg : PySem.W.plainGet K C Str.empty = true)
    (hd : PySem.W.hasDictIn K C = true)
    (po : PySem.W.plainOver K C = true)
    (sa : PySem.W.findIn K (.ref C) "__setattr__" = some (some (.builtin "object.__setattr__")))
    (mk : PySem.W.makesIn K C = true)
    (kc : PySem.W.keepIn K (.ref C) = true)
    (nR : PySem.W.findIn K (.ref C) "its_row" = some none)
    (nS : PySem.W.findIn K (.ref C) "its_story" = some none)
    (vL : PySem.W.nsIn K mainGlobals "LETTERS" = some (some (.str "abcdefghijklmnopqrstuvwxyz" tL)))
    (vM : PySem.W.nsIn K mainGlobals "MOST_LETTERS" = some (some (.int 1000 tM)))
    (vC : PySem.W.nsIn K mainGlobals "MOST_CALLS" = some (some (.int 64 tC)))
    (z_len : PySem.W.nsIn K mainGlobals "len" = some none)
    (z_isinstance : PySem.W.nsIn K mainGlobals "isinstance" = some none)
    (z_int : PySem.W.nsIn K mainGlobals "int" = some none)
    (z_bool : PySem.W.nsIn K mainGlobals "bool" = some none)
    (z_str : PySem.W.nsIn K mainGlobals "str" = some none)
    (z_list : PySem.W.nsIn K mainGlobals "list" = some none)
    (z_zip : PySem.W.nsIn K mainGlobals "zip" = some none)
    (z_range : PySem.W.nsIn K mainGlobals "range" = some none)
    (z_enumerate : PySem.W.nsIn K mainGlobals "enumerate" = some none)
    (z_abs : PySem.W.nsIn K mainGlobals "abs" = some none)
    (z_all : PySem.W.nsIn K mainGlobals "all" = some none) :
    ∃ fd : FuncData, (∀ (s : Shared) (v : Value), BindsTo s fd ⟨[v], []⟩ [("_law_script", v)]) ∧ ∀ base : Heap, K.In base → base.Ns mainGlobals mg → FnOk l.prog w K mg base CX0 9 fa fd ["_law_script"] (sp_law K) := by
  have e := hfa.symm.trans (PySem.W.mg_of X G a29)
  cases e
  have F0 := fun_mk (st := s_is_integer) l0 c0 k0
  have b0 := F0.binds (ps := p_is_integer) fun _ _ _ _ _ _ us hl => match us, hl with | [_], _ => rfl
  have F1 := fun_mk (st := s_is_between) l1 c1 k1
  have b1 := F1.binds (ps := p_is_between) fun _ _ _ _ _ _ us hl => match us, hl with | [_, _, _], _ => rfl
  have F2 := fun_mk (st := s_is_text) l2 c2 k2
  have b2 := F2.binds (ps := p_is_text) fun _ _ _ _ _ _ us hl => match us, hl with | [_, _], _ => rfl
  have F3 := fun_mk (st := s_is_row) l3 c3 k3
  have b3 := F3.binds (ps := p_is_row) fun _ _ _ _ _ _ us hl => match us, hl with | [_], _ => rfl
  have F4 := fun_mk (st := s_is_story) l4 c4 k4
  have b4 := F4.binds (ps := p_is_story) fun _ _ _ _ _ _ us hl => match us, hl with | [_, _], _ => rfl
  have F5 := fun_mk (st := s_shown) l5 c5 k5
  have b5 := F5.binds (ps := p_shown) fun _ _ _ _ _ _ us hl => match us, hl with | [_, _, _], _ => rfl
  have F6 := fun_mk (st := s_f_init) l6 c6 k6
  have b6 := F6.binds (ps := p_f_init) fun _ _ _ _ _ _ us hl => match us, hl with | [_, _, _], _ => rfl
  have F7 := fun_mk (st := s_f_lasts) l7 c7 k7
  have b7 := F7.binds (ps := p_f_lasts) fun _ _ _ _ _ _ us hl => match us, hl with | [_], _ => rfl
  have F8 := fun_mk (st := s_f_length) l8 c8 k8
  have b8 := F8.binds (ps := p_f_length) fun _ _ _ _ _ _ us hl => match us, hl with | [_], _ => rfl
  have F9 := fun_mk (st := s_f_check) l9 c9 k9
  have b9 := F9.binds (ps := p_f_check) fun _ _ _ _ _ _ us hl => match us, hl with | [_, _], _ => rfl
  have F10 := fun_mk (st := s_f_origins) l10 c10 k10
  have b10 := F10.binds (ps := p_f_origins) fun _ _ _ _ _ _ us hl => match us, hl with | [_, _], _ => rfl
  have F11 := fun_mk (st := s_f_letter) l11 c11 k11
  have b11 := F11.binds (ps := p_f_letter) fun _ _ _ _ _ _ us hl => match us, hl with | [_, _], _ => rfl
  have F12 := fun_mk (st := s_f_called) l12 c12 k12
  have b12 := F12.binds (ps := p_f_called) fun _ _ _ _ _ _ us hl => match us, hl with | [_], _ => rfl
  have F13 := fun_mk (st := s_places_apart) l13 c13 k13
  have b13 := F13.binds (ps := p_places_apart) fun _ _ _ _ _ _ us hl => match us, hl with | [_, _], _ => rfl
  have F14 := fun_mk (st := s_first_difference) l14 c14 k14
  have b14 := F14.binds (ps := p_first_difference) fun _ _ _ _ _ _ us hl => match us, hl with | [_, _, _], _ => rfl
  have F15 := fun_mk (st := s_last_difference) l15 c15 k15
  have b15 := F15.binds (ps := p_last_difference) fun _ _ _ _ _ _ us hl => match us, hl with | [_, _, _], _ => rfl
  have F16 := fun_mk (st := s_differences) l16 c16 k16
  have b16 := F16.binds (ps := p_differences) fun _ _ _ _ _ _ us hl => match us, hl with | [_, _, _], _ => rfl
  have F17 := fun_mk (st := s_l_bag) l17 c17 k17
  have b17 := F17.binds (ps := p_l_bag) fun _ _ _ _ _ _ us hl => match us, hl with | [_], _ => rfl
  have F18 := fun_mk (st := s_l_take) l18 c18 k18
  have b18 := F18.binds (ps := p_l_take) fun _ _ _ _ _ _ us hl => match us, hl with | [_, _], _ => rfl
  have F19 := fun_mk (st := s_l_any_word) l19 c19 k19
  have b19 := F19.binds (ps := p_l_any_word) fun _ _ _ _ _ _ us hl => match us, hl with | [_, _], _ => rfl
  have F20 := fun_mk (st := s_l_row) l20 c20 k20
  have b20 := F20.binds (ps := p_l_row) fun _ _ _ _ _ _ us hl => match us, hl with | [_, _], _ => rfl
  have F21 := fun_mk (st := s_l_called) l21 c21 k21
  have b21 := F21.binds (ps := p_l_called) fun _ _ _ _ _ _ us hl => match us, hl with | [_, _], _ => rfl
  have F22 := fun_mk (st := s_l_written) l22 c22 k22
  have b22 := F22.binds (ps := p_l_written) fun _ _ _ _ _ _ us hl => match us, hl with | [_, _], _ => rfl
  have F23 := fun_mk (st := s_l_story) l23 c23 k23
  have b23 := F23.binds (ps := p_l_story) fun _ _ _ _ _ _ us hl => match us, hl with | [_, _, _], _ => rfl
  have F24 := fun_mk (st := s_l_from) l24 c24 k24
  have b24 := F24.binds (ps := p_l_from) fun _ _ _ _ _ _ us hl => match us, hl with | [_, _, _], _ => rfl
  have F25 := fun_mk (st := s_l_other) l25 c25 k25
  have b25 := F25.binds (ps := p_l_other) fun _ _ _ _ _ _ us hl => match us, hl with | [_, _], _ => rfl
  have F26 := fun_mk (st := s_l_number) l26 c26 k26
  have b26 := F26.binds (ps := p_l_number) fun _ _ _ _ _ _ us hl => match us, hl with | [_, _, _], _ => rfl
  have F27 := fun_mk (st := s_l_equal) l27 c27 k27
  have b27 := F27.binds (ps := p_l_equal) fun _ _ _ _ _ _ us hl => match us, hl with | [_, _, _, _], _ => rfl
  have F28 := fun_mk (st := s_l_far_right) l28 c28 k28
  have b28 := F28.binds (ps := p_l_far_right) fun _ _ _ _ _ _ us hl => match us, hl with | [_, _, _, _], _ => rfl
  have F29 := fun_mk (st := s_law) l29 c29 k29
  have b29 := F29.binds (ps := p_law) fun _ _ _ _ _ _ us hl => match us, hl with | [_], _ => rfl
  let a : Ad := ⟨C, tL, tM, tC, (f0, (PySem.W.fnOf "is_integer" "is_integer" (defArgs s_is_integer) (defBody s_is_integer) (defScope s_is_integer) .none kV0 dc0 pm0 an0 cd0 ct0)),
    (f1, (PySem.W.fnOf "is_between" "is_between" (defArgs s_is_between) (defBody s_is_between) (defScope s_is_between) .none kV1 dc1 pm1 an1 cd1 ct1)),
    (f2, (PySem.W.fnOf "is_text" "is_text" (defArgs s_is_text) (defBody s_is_text) (defScope s_is_text) .none kV2 dc2 pm2 an2 cd2 ct2)),
    (f3, (PySem.W.fnOf "is_row" "is_row" (defArgs s_is_row) (defBody s_is_row) (defScope s_is_row) .none kV3 dc3 pm3 an3 cd3 ct3)),
    (f4, (PySem.W.fnOf "is_story" "is_story" (defArgs s_is_story) (defBody s_is_story) (defScope s_is_story) .none kV4 dc4 pm4 an4 cd4 ct4)),
    (f5, (PySem.W.fnOf "shown" "shown" (defArgs s_shown) (defBody s_shown) (defScope s_shown) .none kV5 dc5 pm5 an5 cd5 ct5)),
    (f6, (PySem.W.fnOf "__init__" "Far.__init__" (defArgs s_f_init) (defBody s_f_init) (defScope s_f_init) .none kV6 dc6 pm6 an6 cd6 ct6)),
    (f7, (PySem.W.fnOf "lasts" "Far.lasts" (defArgs s_f_lasts) (defBody s_f_lasts) (defScope s_f_lasts) .none kV7 dc7 pm7 an7 cd7 ct7)),
    (f8, (PySem.W.fnOf "length" "Far.length" (defArgs s_f_length) (defBody s_f_length) (defScope s_f_length) .none kV8 dc8 pm8 an8 cd8 ct8)),
    (f9, (PySem.W.fnOf "check" "Far.check" (defArgs s_f_check) (defBody s_f_check) (defScope s_f_check) .none kV9 dc9 pm9 an9 cd9 ct9)),
    (f10, (PySem.W.fnOf "origins" "Far.origins" (defArgs s_f_origins) (defBody s_f_origins) (defScope s_f_origins) .none kV10 dc10 pm10 an10 cd10 ct10)),
    (f11, (PySem.W.fnOf "letter" "Far.letter" (defArgs s_f_letter) (defBody s_f_letter) (defScope s_f_letter) .none kV11 dc11 pm11 an11 cd11 ct11)),
    (f12, (PySem.W.fnOf "called" "Far.called" (defArgs s_f_called) (defBody s_f_called) (defScope s_f_called) .none kV12 dc12 pm12 an12 cd12 ct12)),
    (f13, (PySem.W.fnOf "places_apart" "places_apart" (defArgs s_places_apart) (defBody s_places_apart) (defScope s_places_apart) .none kV13 dc13 pm13 an13 cd13 ct13)),
    (f14, (PySem.W.fnOf "first_difference" "first_difference" (defArgs s_first_difference) (defBody s_first_difference) (defScope s_first_difference) .none kV14 dc14 pm14 an14 cd14 ct14)),
    (f15, (PySem.W.fnOf "last_difference" "last_difference" (defArgs s_last_difference) (defBody s_last_difference) (defScope s_last_difference) .none kV15 dc15 pm15 an15 cd15 ct15)),
    (f16, (PySem.W.fnOf "differences" "differences" (defArgs s_differences) (defBody s_differences) (defScope s_differences) .none kV16 dc16 pm16 an16 cd16 ct16)),
    (f17, (PySem.W.fnOf "_law_bag" "_law_bag" (defArgs s_l_bag) (defBody s_l_bag) (defScope s_l_bag) .none kV17 dc17 pm17 an17 cd17 ct17)),
    (f18, (PySem.W.fnOf "_law_take" "_law_take" (defArgs s_l_take) (defBody s_l_take) (defScope s_l_take) .none kV18 dc18 pm18 an18 cd18 ct18)),
    (f19, (PySem.W.fnOf "_law_any_word" "_law_any_word" (defArgs s_l_any_word) (defBody s_l_any_word) (defScope s_l_any_word) .none kV19 dc19 pm19 an19 cd19 ct19)),
    (f20, (PySem.W.fnOf "_law_row" "_law_row" (defArgs s_l_row) (defBody s_l_row) (defScope s_l_row) .none kV20 dc20 pm20 an20 cd20 ct20)),
    (f21, (PySem.W.fnOf "_law_called" "_law_called" (defArgs s_l_called) (defBody s_l_called) (defScope s_l_called) .none kV21 dc21 pm21 an21 cd21 ct21)),
    (f22, (PySem.W.fnOf "_law_written" "_law_written" (defArgs s_l_written) (defBody s_l_written) (defScope s_l_written) .none kV22 dc22 pm22 an22 cd22 ct22)),
    (f23, (PySem.W.fnOf "_law_story" "_law_story" (defArgs s_l_story) (defBody s_l_story) (defScope s_l_story) .none kV23 dc23 pm23 an23 cd23 ct23)),
    (f24, (PySem.W.fnOf "_law_from" "_law_from" (defArgs s_l_from) (defBody s_l_from) (defScope s_l_from) .none kV24 dc24 pm24 an24 cd24 ct24)),
    (f25, (PySem.W.fnOf "_law_other" "_law_other" (defArgs s_l_other) (defBody s_l_other) (defScope s_l_other) .none kV25 dc25 pm25 an25 cd25 ct25)),
    (f26, (PySem.W.fnOf "_law_number" "_law_number" (defArgs s_l_number) (defBody s_l_number) (defScope s_l_number) .none kV26 dc26 pm26 an26 cd26 ct26)),
    (f27, (PySem.W.fnOf "_law_equal" "_law_equal" (defArgs s_l_equal) (defBody s_l_equal) (defScope s_l_equal) .none kV27 dc27 pm27 an27 cd27 ct27)),
    (f28, (PySem.W.fnOf "_law_far_right" "_law_far_right" (defArgs s_l_far_right) (defBody s_l_far_right) (defScope s_l_far_right) .none kV28 dc28 pm28 an28 cd28 ct28)),
    (fa, (PySem.W.fnOf "law" "law" (defArgs s_law) (defBody s_law) (defScope s_law) .none kV29 dc29 pm29 an29 cd29 ct29))⟩
  have T : Tx K mg a := ⟨F0, b0, PySem.W.mg_of X G a0, F1, b1, PySem.W.mg_of X G a1, F2, b2, PySem.W.mg_of X G a2, F3, b3, PySem.W.mg_of X G a3, F4, b4, PySem.W.mg_of X G a4, F5, b5, PySem.W.mg_of X G a5, F6, b6, F7, b7, ⟨a7, i7, k7⟩, F8, b8, ⟨a8, i8, k8⟩, F9, b9, ⟨a9, i9, k9⟩, F10, b10, ⟨a10, i10, k10⟩, F11, b11, ⟨a11, i11, k11⟩, F12, b12, ⟨a12, i12, k12⟩, F13, b13, PySem.W.mg_of X G a13, F14, b14, PySem.W.mg_of X G a14, F15, b15, PySem.W.mg_of X G a15, F16, b16, PySem.W.mg_of X G a16, F17, b17, PySem.W.mg_of X G a17, F18, b18, PySem.W.mg_of X G a18, F19, b19, PySem.W.mg_of X G a19, F20, b20, PySem.W.mg_of X G a20, F21, b21, PySem.W.mg_of X G a21, F22, b22, PySem.W.mg_of X G a22, F23, b23, PySem.W.mg_of X G a23, F24, b24, PySem.W.mg_of X G a24, F25, b25, PySem.W.mg_of X G a25, F26, b26, PySem.W.mg_of X G a26, F27, b27, PySem.W.mg_of X G a27, F28, b28, PySem.W.mg_of X G a28, F29, b29, PySem.W.mg_of X G a29, ⟨pg, hd, po, sa⟩, nR, nS, PySem.W.mg_of X G aC, ⟨mk, a6, i6, kc⟩, PySem.W.mg_of X G vL, PySem.W.mg_of X G vM, PySem.W.mg_of X G vC, PySem.W.mg_none_of X G z_len, PySem.W.mg_none_of X G z_isinstance, PySem.W.mg_none_of X G z_int, PySem.W.mg_none_of X G z_bool, PySem.W.mg_none_of X G z_str, PySem.W.mg_none_of X G z_list, PySem.W.mg_none_of X G z_zip, PySem.W.mg_none_of X G z_range, PySem.W.mg_none_of X G z_enumerate, PySem.W.mg_none_of X G z_abs, PySem.W.mg_none_of X G z_all⟩
  exact ⟨a.law.2, fun s v => .of_eq rfl, fun base _ _ => ok_all T⟩
theorem walk {l : PySem.W.OpenLaw} {q : Program} {loose : List Str} {XP : (Str → Option Value) → Heap → Prop} {YP : World → Heap → Prop} {d : DefRec} {K : Params → PySem.W.Frag} (hn : l.most = some 63) (hdf : d.params.defaults = [])
    (hY : ∀ (w : World) (h : Heap), YP w h → (K w.params).In h)
    (F : ∀ (w : World) (mg : Str → Option Value) (fa : Addr) (h : Heap), (K w.params).In h → h.Ns mainGlobals mg → mg d.name = some (.ref fa) →
      ∃ fd : FuncData, (∀ (s : Shared) (u : Value), BindsTo s fd ⟨[u], []⟩ [("_law_script", u)]) ∧ ∀ base : Heap, (K w.params).In base → base.Ns mainGlobals mg → FnOk l.prog w (K w.params) mg base CX0 9 fa fd ["_law_script"] (sp_law (K w.params))) :
    PySem.W.WalkO q loose XP YP l.row.toRowW d [] (fun f vs => PySem.call f vs) :=
  L2.walk_of (n := 63) (k := 9) (x := "_law_script") (CX := fun _ => CX0) (sp := fun w => sp_law (K w.params)) hn (by decide) hdf ⟨rfl, by decide, by decide⟩ hY F (fun _ _ a ns hl _ hS => ⟨a, ns, rfl, hS, hl, fun _ => rfl⟩) fun _ _ _ _ _ z => z
end K68
open PySem PySem.W PyProof.Rows in
set_option maxRecDepth 100000 in
set_option maxHeartbeats 0 in
theorem PySem.Challenge.cw_ownlog_k68_whole_order_is_kept_holds : PySem.Challenge.rw_ownlog_k68_whole_order_is_kept.Holds := by
  w_on; o_law; k_head; (case hw => w_witness2)
  k_fill
  refine K68.walk (l := PySem.Challenge.rw_ownlog_k68_whole_order_is_kept) rfl rfl (fun w h Y => PySem.W.kIn_of Y) ?F
  case F =>
    intro w mg fa h KX G hmg
    have hm : mg "law" = some (.ref fa) := hmg
    clear hmg
    refine' K68.all_mk KX G hm ?a0 ?l0 ?c0 ?k0 ?a1 ?l1 ?c1 ?k1 ?a2 ?l2 ?c2 ?k2 ?a3 ?l3 ?c3 ?k3 ?a4 ?l4 ?c4 ?k4 ?a5 ?l5 ?c5 ?k5 ?a6 ?i6 ?l6 ?c6 ?k6 ?a7 ?i7 ?l7 ?c7 ?k7 ?a8 ?i8 ?l8 ?c8 ?k8 ?a9 ?i9 ?l9 ?c9 ?k9 ?a10 ?i10 ?l10 ?c10 ?k10 ?a11 ?i11 ?l11 ?c11 ?k11 ?a12 ?i12 ?l12 ?c12 ?k12 ?a13 ?l13 ?c13 ?k13 ?a14 ?l14 ?c14 ?k14 ?a15 ?l15 ?c15 ?k15 ?a16 ?l16 ?c16 ?k16 ?a17 ?l17 ?c17 ?k17 ?a18 ?l18 ?c18 ?k18 ?a19 ?l19 ?c19 ?k19 ?a20 ?l20 ?c20 ?k20 ?a21 ?l21 ?c21 ?k21 ?a22 ?l22 ?c22 ?k22 ?a23 ?l23 ?c23 ?k23 ?a24 ?l24 ?c24 ?k24 ?a25 ?l25 ?c25 ?k25 ?a26 ?l26 ?c26 ?k26 ?a27 ?l27 ?c27 ?k27 ?a28 ?l28 ?c28 ?k28 ?a29 ?l29 ?c29 ?k29 ?aC ?pg ?hd ?po ?sa ?mk ?kc ?nR ?nS ?vL ?vM ?vC ?z_len ?z_isinstance ?z_int ?z_bool ?z_str ?z_list ?z_zip ?z_range ?z_enumerate ?z_abs ?z_all
    (case aC => k_is)
    (case a0 => k_is)
    (case l0 => k_is)
    (case c0 => k_is)
    (case k0 => k_is)
    (case a1 => k_is)
    (case l1 => k_is)
    (case c1 => k_is)
    (case k1 => k_is)
    (case a2 => k_is)
    (case l2 => k_is)
    (case c2 => k_is)
    (case k2 => k_is)
    (case a3 => k_is)
    (case l3 => k_is)
    (case c3 => k_is)
    (case k3 => k_is)
    (case a4 => k_is)
    (case l4 => k_is)
    (case c4 => k_is)
    (case k4 => k_is)
    (case a5 => k_is)
    (case l5 => k_is)
    (case c5 => k_is)
    (case k5 => k_is)
    (case a6 => k_is)
    (case i6 => k_is)
    (case l6 => k_is)
    (case c6 => k_is)
    (case k6 => k_is)
    (case a7 => k_is)
    (case i7 => k_is)
    (case l7 => k_is)
    (case c7 => k_is)
    (case k7 => k_is)
    (case a8 => k_is)
    (case i8 => k_is)
    (case l8 => k_is)
    (case c8 => k_is)
    (case k8 => k_is)
    (case a9 => k_is)
    (case i9 => k_is)
    (case l9 => k_is)
    (case c9 => k_is)
    (case k9 => k_is)
    (case a10 => k_is)
    (case i10 => k_is)
    (case l10 => k_is)
    (case c10 => k_is)
    (case k10 => k_is)
    (case a11 => k_is)
    (case i11 => k_is)
    (case l11 => k_is)
    (case c11 => k_is)
    (case k11 => k_is)
    (case a12 => k_is)
    (case i12 => k_is)
    (case l12 => k_is)
    (case c12 => k_is)
    (case k12 => k_is)
    (case a13 => k_is)
    (case l13 => k_is)
    (case c13 => k_is)
    (case k13 => k_is)
    (case a14 => k_is)
    (case l14 => k_is)
    (case c14 => k_is)
    (case k14 => k_is)
    (case a15 => k_is)
    (case l15 => k_is)
    (case c15 => k_is)
    (case k15 => k_is)
    (case a16 => k_is)
    (case l16 => k_is)
    (case c16 => k_is)
    (case k16 => k_is)
    (case a17 => k_is)
    (case l17 => k_is)
    (case c17 => k_is)
    (case k17 => k_is)
    (case a18 => k_is)
    (case l18 => k_is)
    (case c18 => k_is)
    (case k18 => k_is)
    (case a19 => k_is)
    (case l19 => k_is)
    (case c19 => k_is)
    (case k19 => k_is)
    (case a20 => k_is)
    (case l20 => k_is)
    (case c20 => k_is)
    (case k20 => k_is)
    (case a21 => k_is)
    (case l21 => k_is)
    (case c21 => k_is)
    (case k21 => k_is)
    (case a22 => k_is)
    (case l22 => k_is)
    (case c22 => k_is)
    (case k22 => k_is)
    (case a23 => k_is)
    (case l23 => k_is)
    (case c23 => k_is)
    (case k23 => k_is)
    (case a24 => k_is)
    (case l24 => k_is)
    (case c24 => k_is)
    (case k24 => k_is)
    (case a25 => k_is)
    (case l25 => k_is)
    (case c25 => k_is)
    (case k25 => k_is)
    (case a26 => k_is)
    (case l26 => k_is)
    (case c26 => k_is)
    (case k26 => k_is)
    (case a27 => k_is)
    (case l27 => k_is)
    (case c27 => k_is)
    (case k27 => k_is)
    (case a28 => k_is)
    (case l28 => k_is)
    (case c28 => k_is)
    (case k28 => k_is)
    (case a29 => k_is)
    (case l29 => k_is)
    (case c29 => k_is)
    (case k29 => k_is)
    (case pg => k_is)
    (case hd => k_is)
    (case po => k_is)
    (case sa => k_is)
    (case mk => k_is)
    (case kc => k_is)
    (case nR => k_is)
    (case nS => k_is)
    (case vL => k_is)
    (case vM => k_is)
    (case vC => k_is)
    (case z_len => k_is)
    (case z_isinstance => k_is)
    (case z_int => k_is)
    (case z_bool => k_is)
    (case z_str => k_is)
    (case z_list => k_is)
    (case z_zip => k_is)
    (case z_range => k_is)
    (case z_enumerate => k_is)
    (case z_abs => k_is)
    (case z_all => k_is)
